import Derived.Test.YthiiodgpdoljoaaKl1
import Derived.Test.YthiiodgpdoljoaaKl0
import Derived.Test.YthiiodgpdoljoaaKl5
import Derived.Test.YthiiodgpdoljoaaKl2
import Derived.Test.YthiiodgpdoljoaaKl3
import Derived.Test.YthiiodgpdoljoaaKl4
-- Words and walks that the kit's print has laid for this seat, cut down, and our own texts, merged.
namespace Go.Proofs.Ythiiodgpdoljoaa.PLc
open Go.RowKit Go.Proofs.YthiiodgpdoljoaaW.PrintWords Go.Proofs.YthiiodgpdoljoaaW.PrintLast Go.Proofs.YthiiodgpdoljoaaW.PrintMore
attribute [local go_sem] max2_int min2_int max_two min_two max_three min_three max_four min_four   -- for this text's walks alone
set_option linter.unusedVariables false
set_option linter.unusedSimpArgs false
attribute [local go_sem high] eqA47 eqA52
/-! ### steeplelaw25_CircuitLays: function 3 -/
mutual
def steeplelaw25_CircuitLays.j0 : Nat → List (S76) → Int → List (List (S118)) → Int → Int → List (S47) → List (List (S52)) → Option (Bool)
 | 0, _, _, _, _, _, _, _ => none
 | k + 1, x4, x5, x6, x7, x8, x9, x10 => if x5 = x8 then (steeplelaw25_CircuitLays.j1 k x4 x6 x8 x9 x10 (x7 != x8)) else (steeplelaw25_CircuitLays.j1 k x4 x6 x8 x9 x10 true)
def steeplelaw25_CircuitLays.j1 : Nat → List (S76) → List (List (S118)) → Int → List (S47) → List (List (S52)) → Bool → Option (Bool)
 | 0, _, _, _, _, _, _ => none
 | k + 1, x4, x6, x8, x9, x10, x51 => if x51 = true then (some false) else (if x8 = 0 then ((steeplelaw22_Ref.f k x4).bind fun t561 => (if (t561.length : Int) = (x9.length : Int) then (steeplelaw25_CircuitLays.j2 k x6 x9 x10 t561 ((x6.length : Int) != (x10.length : Int))) else (steeplelaw25_CircuitLays.j2 k x6 x9 x10 t561 true))) else ((steeplelaw25_awake.f k).bind fun t560 => (if t560 = true then (some ((wrap64 ((x4.length : Int) + (x6.length : Int))) == 0)) else (some false))))
def steeplelaw25_CircuitLays.j2 : Nat → List (List (S118)) → List (S47) → List (List (S52)) → List (S47) → Bool → Option (Bool)
 | 0, _, _, _, _, _ => none
 | k + 1, x6, x9, x10, x11, x76 => if x76 = true then (some false) else (steeplelaw25_CircuitLays.l0 k x6 x9 x10 x11 0)
def steeplelaw25_CircuitLays.l0 : Nat → List (List (S118)) → List (S47) → List (List (S52)) → List (S47) → Int → Option (Bool)
 | 0, _, _, _, _, _ => none
 | k + 1, x6, x9, x10, x11, x12 => if x12 < (x11.length : Int) then (if 0 ≤ x12 then (if x12 < (x9.length : Int) then (if (!(((rd_T47 x11 x12).f0) == ((rd_T47 x9 x12).f0)) || (!(((rd_T47 x11 x12).f1) == ((rd_T47 x9 x12).f1)) || (!(((rd_T47 x11 x12).f2) == ((rd_T47 x9 x12).f2)) || ((!(((rd_T47 x11 x12).f3.f0) == ((rd_T47 x9 x12).f3.f0)) || (!(((rd_T47 x11 x12).f3.f1) == ((rd_T47 x9 x12).f3.f1)))))))) = true then (some false) else (steeplelaw25_CircuitLays.l0 k x6 x9 x10 x11 (wrap64 (x12 + 1)))) else (none)) else (none)) else (steeplelaw25_CircuitLays.l1 k x6 x10 0)
def steeplelaw25_CircuitLays.l1 : Nat → List (List (S118)) → List (List (S52)) → Int → Option (Bool)
 | 0, _, _, _ => none
 | k + 1, x6, x10, x13 => if x13 < (x6.length : Int) then (if 0 ≤ x13 then ((steeplelaw16_Ref.f k (rd_L9 x6 x13)).bind fun t568 => (if x13 < (x10.length : Int) then (if (t568.length : Int) = ((rd_L16 x10 x13).length : Int) then (steeplelaw25_CircuitLays.l2 k x6 x10 x13 t568 0) else (some false)) else (none))) else (none)) else ((steeplelaw25_awake.f k).bind fun t566 => (some t566))
def steeplelaw25_CircuitLays.l2 : Nat → List (List (S118)) → List (List (S52)) → Int → List (S52) → Int → Option (Bool)
 | 0, _, _, _, _, _ => none
 | k + 1, x6, x10, x13, x14, x15 => if x15 < (x14.length : Int) then (if 0 ≤ x15 then (if 0 ≤ x13 then (if x13 < (x10.length : Int) then (if x15 < ((rd_L16 x10 x13).length : Int) then (if (!(((rd_T52 x14 x15).f0) == ((rd_T52 (rd_L16 x10 x13) x15).f0)) || (!(((rd_T52 x14 x15).f1) == ((rd_T52 (rd_L16 x10 x13) x15).f1)) || (!(((rd_T52 x14 x15).f2) == ((rd_T52 (rd_L16 x10 x13) x15).f2)) || ((!(((rd_T52 x14 x15).f3.f0) == ((rd_T52 (rd_L16 x10 x13) x15).f3.f0)) || (!(((rd_T52 x14 x15).f3.f1) == ((rd_T52 (rd_L16 x10 x13) x15).f3.f1)))))))) = true then (some false) else (steeplelaw25_CircuitLays.l2 k x6 x10 x13 x14 (wrap64 (x15 + 1)))) else (none)) else (none)) else (none)) else (none)) else (steeplelaw25_CircuitLays.l1 k x6 x10 (wrap64 (x13 + 1)))
end
def steeplelaw25_CircuitLays.f (k : Nat) (a0_0 : Int) (a0_1 : Int) (a0_2 : Int) (a0_3 : Int) (a0_4 : Int) (l0_5 : List (S105)) : Option (Bool) := if (l0_5.length : Int) > 40 then ((steeplelaw25_awake.f k).bind fun t535 => (some t535)) else ((steeplelaw25_Ref.f k a0_0 a0_1 a0_2 a0_3 a0_4 l0_5).bind fun bt536 => ((circuit_Wires.f k a0_0 a0_1 a0_2 a0_3 a0_4 l0_5).bind fun bt545 => ((circuit_Conds.f k a0_0 a0_1 a0_2 a0_3 a0_4 l0_5).bind fun bt549 => ((steepleref25_Check.f k bt536.1 bt536.2.1 bt536.2.2.1 bt536.2.2.2.1 bt536.2.2.2.2.1 bt536.2.2.2.2.2).bind fun t553 => (if t553 = 0 then ((steepleref25_Wires.f k bt536.1 bt536.2.1 bt536.2.2.1 bt536.2.2.2.1 bt536.2.2.2.2.1 bt536.2.2.2.2.2).bind fun t554 => ((steepleref25_Conds.f k bt536.1 bt536.2.1 bt536.2.2.1 bt536.2.2.2.1 bt536.2.2.2.2.1 bt536.2.2.2.2.2).bind fun t557 => (if (t557.length : Int) > 40 then (steeplelaw25_CircuitLays.j0 k bt545.1 bt545.2 bt549.1 bt549.2 2 t554 t557) else (steeplelaw25_CircuitLays.j0 k bt545.1 bt545.2 bt549.1 bt549.2 t553 t554 t557)))) else (steeplelaw25_CircuitLays.j0 k bt545.1 bt545.2 bt549.1 bt549.2 t553 ([] : List (S47)) ([] : List (List (S52)))))))))
theorem steeplelaw25_CircuitLays.mono_l : ∀ k, (∀ y0 y1 y2 y3 y4 y5 y6, LeO (steeplelaw25_CircuitLays.j0 k y0 y1 y2 y3 y4 y5 y6) (steeplelaw25_CircuitLays.j0 (k + 1) y0 y1 y2 y3 y4 y5 y6)) ∧ (∀ y0 y1 y2 y3 y4 y5, LeO (steeplelaw25_CircuitLays.j1 k y0 y1 y2 y3 y4 y5) (steeplelaw25_CircuitLays.j1 (k + 1) y0 y1 y2 y3 y4 y5)) ∧ (∀ y0 y1 y2 y3 y4, LeO (steeplelaw25_CircuitLays.j2 k y0 y1 y2 y3 y4) (steeplelaw25_CircuitLays.j2 (k + 1) y0 y1 y2 y3 y4)) ∧ (∀ y0 y1 y2 y3 y4, LeO (steeplelaw25_CircuitLays.l0 k y0 y1 y2 y3 y4) (steeplelaw25_CircuitLays.l0 (k + 1) y0 y1 y2 y3 y4)) ∧ (∀ y0 y1 y2, LeO (steeplelaw25_CircuitLays.l1 k y0 y1 y2) (steeplelaw25_CircuitLays.l1 (k + 1) y0 y1 y2)) ∧ (∀ y0 y1 y2 y3 y4, LeO (steeplelaw25_CircuitLays.l2 k y0 y1 y2 y3 y4) (steeplelaw25_CircuitLays.l2 (k + 1) y0 y1 y2 y3 y4))
 | 0 => ⟨fun _ _ _ _ _ _ _ r h => by simp [steeplelaw25_CircuitLays.j0] at h, fun _ _ _ _ _ _ r h => by simp [steeplelaw25_CircuitLays.j1] at h, fun _ _ _ _ _ r h => by simp [steeplelaw25_CircuitLays.j2] at h, fun _ _ _ _ _ r h => by simp [steeplelaw25_CircuitLays.l0] at h, fun _ _ _ r h => by simp [steeplelaw25_CircuitLays.l1] at h, fun _ _ _ _ _ r h => by simp [steeplelaw25_CircuitLays.l2] at h⟩
 | k + 1 => by
  obtain ⟨ih0, ih1, ih2, ih3, ih4, ih5⟩ := steeplelaw25_CircuitLays.mono_l k
  refine ⟨?_, ?_, ?_, ?_, ?_, ?_⟩
  ·intro y0 y1 y2 y3 y4 y5 y6
   unfold steeplelaw25_CircuitLays.j0
   repeat' first
   | (with_reducible exact ih0 _ _ _ _ _ _ _)
   | (with_reducible exact ih1 _ _ _ _ _ _)
   | (with_reducible exact ih2 _ _ _ _ _)
   | (with_reducible exact ih3 _ _ _ _ _)
   | (with_reducible exact ih4 _ _ _)
   | (with_reducible exact ih5 _ _ _ _ _)
   | (with_reducible exact circuit_Conds.mono _ _ _ _ _ _ _)
   | (with_reducible exact circuit_Wires.mono _ _ _ _ _ _ _)
   | (with_reducible exact steeplelaw16_Ref.mono _ _)
   | (with_reducible exact steeplelaw22_Ref.mono _ _)
   | (with_reducible exact steeplelaw25_Ref.mono _ _ _ _ _ _ _)
   | (with_reducible exact steeplelaw25_awake.mono _)
   | (with_reducible exact steepleref25_Check.mono _ _ _ _ _ _ _)
   | (with_reducible exact steepleref25_Conds.mono _ _ _ _ _ _ _)
   | (with_reducible exact steepleref25_Wires.mono _ _ _ _ _ _ _)
   | (with_reducible exact LeO.refl _)
   | (with_reducible exact LeO.none _)
   | (with_reducible refine LeO.ite ?_ ?_)
   | (with_reducible refine LeO.bind ?_ (fun _ => ?_))
   | exact ih0 _ _ _ _ _ _ _
   | exact ih1 _ _ _ _ _ _
   | exact ih2 _ _ _ _ _
   | exact ih3 _ _ _ _ _
   | exact ih4 _ _ _
   | exact ih5 _ _ _ _ _
   | exact circuit_Conds.mono _ _ _ _ _ _ _
   | exact circuit_Wires.mono _ _ _ _ _ _ _
   | exact steeplelaw16_Ref.mono _ _
   | exact steeplelaw22_Ref.mono _ _
   | exact steeplelaw25_Ref.mono _ _ _ _ _ _ _
   | exact steeplelaw25_awake.mono _
   | exact steepleref25_Check.mono _ _ _ _ _ _ _
   | exact steepleref25_Conds.mono _ _ _ _ _ _ _
   | exact steepleref25_Wires.mono _ _ _ _ _ _ _
   | exact LeO.none _
   | refine LeO.ite ?_ ?_
   | refine LeO.bind ?_ (fun _ => ?_)
  ·intro y0 y1 y2 y3 y4 y5
   unfold steeplelaw25_CircuitLays.j1
   repeat' first
   | (with_reducible exact ih0 _ _ _ _ _ _ _)
   | (with_reducible exact ih1 _ _ _ _ _ _)
   | (with_reducible exact ih2 _ _ _ _ _)
   | (with_reducible exact ih3 _ _ _ _ _)
   | (with_reducible exact ih4 _ _ _)
   | (with_reducible exact ih5 _ _ _ _ _)
   | (with_reducible exact circuit_Conds.mono _ _ _ _ _ _ _)
   | (with_reducible exact circuit_Wires.mono _ _ _ _ _ _ _)
   | (with_reducible exact steeplelaw16_Ref.mono _ _)
   | (with_reducible exact steeplelaw22_Ref.mono _ _)
   | (with_reducible exact steeplelaw25_Ref.mono _ _ _ _ _ _ _)
   | (with_reducible exact steeplelaw25_awake.mono _)
   | (with_reducible exact steepleref25_Check.mono _ _ _ _ _ _ _)
   | (with_reducible exact steepleref25_Conds.mono _ _ _ _ _ _ _)
   | (with_reducible exact steepleref25_Wires.mono _ _ _ _ _ _ _)
   | (with_reducible exact LeO.refl _)
   | (with_reducible exact LeO.none _)
   | (with_reducible refine LeO.ite ?_ ?_)
   | (with_reducible refine LeO.bind ?_ (fun _ => ?_))
   | exact ih0 _ _ _ _ _ _ _
   | exact ih1 _ _ _ _ _ _
   | exact ih2 _ _ _ _ _
   | exact ih3 _ _ _ _ _
   | exact ih4 _ _ _
   | exact ih5 _ _ _ _ _
   | exact circuit_Conds.mono _ _ _ _ _ _ _
   | exact circuit_Wires.mono _ _ _ _ _ _ _
   | exact steeplelaw16_Ref.mono _ _
   | exact steeplelaw22_Ref.mono _ _
   | exact steeplelaw25_Ref.mono _ _ _ _ _ _ _
   | exact steeplelaw25_awake.mono _
   | exact steepleref25_Check.mono _ _ _ _ _ _ _
   | exact steepleref25_Conds.mono _ _ _ _ _ _ _
   | exact steepleref25_Wires.mono _ _ _ _ _ _ _
   | exact LeO.none _
   | refine LeO.ite ?_ ?_
   | refine LeO.bind ?_ (fun _ => ?_)
  ·intro y0 y1 y2 y3 y4
   unfold steeplelaw25_CircuitLays.j2
   repeat' first
   | (with_reducible exact ih0 _ _ _ _ _ _ _)
   | (with_reducible exact ih1 _ _ _ _ _ _)
   | (with_reducible exact ih2 _ _ _ _ _)
   | (with_reducible exact ih3 _ _ _ _ _)
   | (with_reducible exact ih4 _ _ _)
   | (with_reducible exact ih5 _ _ _ _ _)
   | (with_reducible exact circuit_Conds.mono _ _ _ _ _ _ _)
   | (with_reducible exact circuit_Wires.mono _ _ _ _ _ _ _)
   | (with_reducible exact steeplelaw16_Ref.mono _ _)
   | (with_reducible exact steeplelaw22_Ref.mono _ _)
   | (with_reducible exact steeplelaw25_Ref.mono _ _ _ _ _ _ _)
   | (with_reducible exact steeplelaw25_awake.mono _)
   | (with_reducible exact steepleref25_Check.mono _ _ _ _ _ _ _)
   | (with_reducible exact steepleref25_Conds.mono _ _ _ _ _ _ _)
   | (with_reducible exact steepleref25_Wires.mono _ _ _ _ _ _ _)
   | (with_reducible exact LeO.refl _)
   | (with_reducible exact LeO.none _)
   | (with_reducible refine LeO.ite ?_ ?_)
   | (with_reducible refine LeO.bind ?_ (fun _ => ?_))
   | exact ih0 _ _ _ _ _ _ _
   | exact ih1 _ _ _ _ _ _
   | exact ih2 _ _ _ _ _
   | exact ih3 _ _ _ _ _
   | exact ih4 _ _ _
   | exact ih5 _ _ _ _ _
   | exact circuit_Conds.mono _ _ _ _ _ _ _
   | exact circuit_Wires.mono _ _ _ _ _ _ _
   | exact steeplelaw16_Ref.mono _ _
   | exact steeplelaw22_Ref.mono _ _
   | exact steeplelaw25_Ref.mono _ _ _ _ _ _ _
   | exact steeplelaw25_awake.mono _
   | exact steepleref25_Check.mono _ _ _ _ _ _ _
   | exact steepleref25_Conds.mono _ _ _ _ _ _ _
   | exact steepleref25_Wires.mono _ _ _ _ _ _ _
   | exact LeO.none _
   | refine LeO.ite ?_ ?_
   | refine LeO.bind ?_ (fun _ => ?_)
  ·intro y0 y1 y2 y3 y4
   unfold steeplelaw25_CircuitLays.l0
   repeat' first
   | (with_reducible exact ih0 _ _ _ _ _ _ _)
   | (with_reducible exact ih1 _ _ _ _ _ _)
   | (with_reducible exact ih2 _ _ _ _ _)
   | (with_reducible exact ih3 _ _ _ _ _)
   | (with_reducible exact ih4 _ _ _)
   | (with_reducible exact ih5 _ _ _ _ _)
   | (with_reducible exact circuit_Conds.mono _ _ _ _ _ _ _)
   | (with_reducible exact circuit_Wires.mono _ _ _ _ _ _ _)
   | (with_reducible exact steeplelaw16_Ref.mono _ _)
   | (with_reducible exact steeplelaw22_Ref.mono _ _)
   | (with_reducible exact steeplelaw25_Ref.mono _ _ _ _ _ _ _)
   | (with_reducible exact steeplelaw25_awake.mono _)
   | (with_reducible exact steepleref25_Check.mono _ _ _ _ _ _ _)
   | (with_reducible exact steepleref25_Conds.mono _ _ _ _ _ _ _)
   | (with_reducible exact steepleref25_Wires.mono _ _ _ _ _ _ _)
   | (with_reducible exact LeO.refl _)
   | (with_reducible exact LeO.none _)
   | (with_reducible refine LeO.ite ?_ ?_)
   | (with_reducible refine LeO.bind ?_ (fun _ => ?_))
   | exact ih0 _ _ _ _ _ _ _
   | exact ih1 _ _ _ _ _ _
   | exact ih2 _ _ _ _ _
   | exact ih3 _ _ _ _ _
   | exact ih4 _ _ _
   | exact ih5 _ _ _ _ _
   | exact circuit_Conds.mono _ _ _ _ _ _ _
   | exact circuit_Wires.mono _ _ _ _ _ _ _
   | exact steeplelaw16_Ref.mono _ _
   | exact steeplelaw22_Ref.mono _ _
   | exact steeplelaw25_Ref.mono _ _ _ _ _ _ _
   | exact steeplelaw25_awake.mono _
   | exact steepleref25_Check.mono _ _ _ _ _ _ _
   | exact steepleref25_Conds.mono _ _ _ _ _ _ _
   | exact steepleref25_Wires.mono _ _ _ _ _ _ _
   | exact LeO.none _
   | refine LeO.ite ?_ ?_
   | refine LeO.bind ?_ (fun _ => ?_)
  ·intro y0 y1 y2
   unfold steeplelaw25_CircuitLays.l1
   repeat' first
   | (with_reducible exact ih0 _ _ _ _ _ _ _)
   | (with_reducible exact ih1 _ _ _ _ _ _)
   | (with_reducible exact ih2 _ _ _ _ _)
   | (with_reducible exact ih3 _ _ _ _ _)
   | (with_reducible exact ih4 _ _ _)
   | (with_reducible exact ih5 _ _ _ _ _)
   | (with_reducible exact circuit_Conds.mono _ _ _ _ _ _ _)
   | (with_reducible exact circuit_Wires.mono _ _ _ _ _ _ _)
   | (with_reducible exact steeplelaw16_Ref.mono _ _)
   | (with_reducible exact steeplelaw22_Ref.mono _ _)
   | (with_reducible exact steeplelaw25_Ref.mono _ _ _ _ _ _ _)
   | (with_reducible exact steeplelaw25_awake.mono _)
   | (with_reducible exact steepleref25_Check.mono _ _ _ _ _ _ _)
   | (with_reducible exact steepleref25_Conds.mono _ _ _ _ _ _ _)
   | (with_reducible exact steepleref25_Wires.mono _ _ _ _ _ _ _)
   | (with_reducible exact LeO.refl _)
   | (with_reducible exact LeO.none _)
   | (with_reducible refine LeO.ite ?_ ?_)
   | (with_reducible refine LeO.bind ?_ (fun _ => ?_))
   | exact ih0 _ _ _ _ _ _ _
   | exact ih1 _ _ _ _ _ _
   | exact ih2 _ _ _ _ _
   | exact ih3 _ _ _ _ _
   | exact ih4 _ _ _
   | exact ih5 _ _ _ _ _
   | exact circuit_Conds.mono _ _ _ _ _ _ _
   | exact circuit_Wires.mono _ _ _ _ _ _ _
   | exact steeplelaw16_Ref.mono _ _
   | exact steeplelaw22_Ref.mono _ _
   | exact steeplelaw25_Ref.mono _ _ _ _ _ _ _
   | exact steeplelaw25_awake.mono _
   | exact steepleref25_Check.mono _ _ _ _ _ _ _
   | exact steepleref25_Conds.mono _ _ _ _ _ _ _
   | exact steepleref25_Wires.mono _ _ _ _ _ _ _
   | exact LeO.none _
   | refine LeO.ite ?_ ?_
   | refine LeO.bind ?_ (fun _ => ?_)
  ·intro y0 y1 y2 y3 y4
   unfold steeplelaw25_CircuitLays.l2
   repeat' first
   | (with_reducible exact ih0 _ _ _ _ _ _ _)
   | (with_reducible exact ih1 _ _ _ _ _ _)
   | (with_reducible exact ih2 _ _ _ _ _)
   | (with_reducible exact ih3 _ _ _ _ _)
   | (with_reducible exact ih4 _ _ _)
   | (with_reducible exact ih5 _ _ _ _ _)
   | (with_reducible exact circuit_Conds.mono _ _ _ _ _ _ _)
   | (with_reducible exact circuit_Wires.mono _ _ _ _ _ _ _)
   | (with_reducible exact steeplelaw16_Ref.mono _ _)
   | (with_reducible exact steeplelaw22_Ref.mono _ _)
   | (with_reducible exact steeplelaw25_Ref.mono _ _ _ _ _ _ _)
   | (with_reducible exact steeplelaw25_awake.mono _)
   | (with_reducible exact steepleref25_Check.mono _ _ _ _ _ _ _)
   | (with_reducible exact steepleref25_Conds.mono _ _ _ _ _ _ _)
   | (with_reducible exact steepleref25_Wires.mono _ _ _ _ _ _ _)
   | (with_reducible exact LeO.refl _)
   | (with_reducible exact LeO.none _)
   | (with_reducible refine LeO.ite ?_ ?_)
   | (with_reducible refine LeO.bind ?_ (fun _ => ?_))
   | exact ih0 _ _ _ _ _ _ _
   | exact ih1 _ _ _ _ _ _
   | exact ih2 _ _ _ _ _
   | exact ih3 _ _ _ _ _
   | exact ih4 _ _ _
   | exact ih5 _ _ _ _ _
   | exact circuit_Conds.mono _ _ _ _ _ _ _
   | exact circuit_Wires.mono _ _ _ _ _ _ _
   | exact steeplelaw16_Ref.mono _ _
   | exact steeplelaw22_Ref.mono _ _
   | exact steeplelaw25_Ref.mono _ _ _ _ _ _ _
   | exact steeplelaw25_awake.mono _
   | exact steepleref25_Check.mono _ _ _ _ _ _ _
   | exact steepleref25_Conds.mono _ _ _ _ _ _ _
   | exact steepleref25_Wires.mono _ _ _ _ _ _ _
   | exact LeO.none _
   | refine LeO.ite ?_ ?_
   | refine LeO.bind ?_ (fun _ => ?_)
theorem steeplelaw25_CircuitLays.mono : ∀ a0 a1 a2 a3 a4 a5 k, LeO (steeplelaw25_CircuitLays.f k a0 a1 a2 a3 a4 a5) (steeplelaw25_CircuitLays.f (k + 1) a0 a1 a2 a3 a4 a5) := by
 intro a0 a1 a2 a3 a4 a5 k
 obtain ⟨ih0, ih1, ih2, ih3, ih4, ih5⟩ := steeplelaw25_CircuitLays.mono_l k
 unfold steeplelaw25_CircuitLays.f
 repeat' first
   | (with_reducible exact ih0 _ _ _ _ _ _ _)
   | (with_reducible exact ih1 _ _ _ _ _ _)
   | (with_reducible exact ih2 _ _ _ _ _)
   | (with_reducible exact ih3 _ _ _ _ _)
   | (with_reducible exact ih4 _ _ _)
   | (with_reducible exact ih5 _ _ _ _ _)
   | (with_reducible exact circuit_Conds.mono _ _ _ _ _ _ _)
   | (with_reducible exact circuit_Wires.mono _ _ _ _ _ _ _)
   | (with_reducible exact steeplelaw16_Ref.mono _ _)
   | (with_reducible exact steeplelaw22_Ref.mono _ _)
   | (with_reducible exact steeplelaw25_Ref.mono _ _ _ _ _ _ _)
   | (with_reducible exact steeplelaw25_awake.mono _)
   | (with_reducible exact steepleref25_Check.mono _ _ _ _ _ _ _)
   | (with_reducible exact steepleref25_Conds.mono _ _ _ _ _ _ _)
   | (with_reducible exact steepleref25_Wires.mono _ _ _ _ _ _ _)
   | (with_reducible exact LeO.refl _)
   | (with_reducible exact LeO.none _)
   | (with_reducible refine LeO.ite ?_ ?_)
   | (with_reducible refine LeO.bind ?_ (fun _ => ?_))
   | exact ih0 _ _ _ _ _ _ _
   | exact ih1 _ _ _ _ _ _
   | exact ih2 _ _ _ _ _
   | exact ih3 _ _ _ _ _
   | exact ih4 _ _ _
   | exact ih5 _ _ _ _ _
   | exact circuit_Conds.mono _ _ _ _ _ _ _
   | exact circuit_Wires.mono _ _ _ _ _ _ _
   | exact steeplelaw16_Ref.mono _ _
   | exact steeplelaw22_Ref.mono _ _
   | exact steeplelaw25_Ref.mono _ _ _ _ _ _ _
   | exact steeplelaw25_awake.mono _
   | exact steepleref25_Check.mono _ _ _ _ _ _ _
   | exact steepleref25_Conds.mono _ _ _ _ _ _ _
   | exact steepleref25_Wires.mono _ _ _ _ _ _ _
   | exact LeO.none _
   | refine LeO.ite ?_ ?_
   | refine LeO.bind ?_ (fun _ => ?_)
set_option maxHeartbeats 8000000 in
set_option maxRecDepth 100000 in
theorem steeplelaw25_CircuitLays.calls (k : Nat) (a0_0 : Int) (a0_1 : Int) (a0_2 : Int) (a0_3 : Int) (a0_4 : Int) (A0_5 : Option Addr) (c0_5 : Nat) (l0_5 : List (S105)) (r : Bool) (w : World) (hr0_5 : Kd.C k105 w A0_5 l0_5.length l0_5) (hc0_5 : l0_5.length ≤ c0_5) (h : steeplelaw25_CircuitLays.f k a0_0 a0_1 a0_2 a0_3 a0_4 l0_5 = some r) :
  Calls Try.prog 3 #[.agg #[.int .i64 a0_0, .int .i64 a0_1, .int .i64 a0_2, .int .i64 a0_3, .int .i64 a0_4, .slice A0_5 l0_5.length c0_5]] w fun e w' => e = .returned (.bool r) ∧ Below w.heap.size w w' := by
 have hu24 := Try.underlying24; have hu28 := Try.underlying28; have hu47 := Try.underlying47; have hu52 := Try.underlying52; have HR0_5 := Aside0.mk hr0_5; have HC0_5 := Aside0.mk hc0_5; clear hr0_5 hc0_5; have HB := Aside0.mk (Below.refl w.heap.size w)
 have H : (if (l0_5.length : Int) > 40 then ((steeplelaw25_awake.f k).bind fun t535 => (some t535)) else ((steeplelaw25_Ref.f k a0_0 a0_1 a0_2 a0_3 a0_4 l0_5).bind fun bt536 => ((circuit_Wires.f k a0_0 a0_1 a0_2 a0_3 a0_4 l0_5).bind fun bt545 => ((circuit_Conds.f k a0_0 a0_1 a0_2 a0_3 a0_4 l0_5).bind fun bt549 => ((steepleref25_Check.f k bt536.1 bt536.2.1 bt536.2.2.1 bt536.2.2.2.1 bt536.2.2.2.2.1 bt536.2.2.2.2.2).bind fun t553 => (if t553 = 0 then ((steepleref25_Wires.f k bt536.1 bt536.2.1 bt536.2.2.1 bt536.2.2.2.1 bt536.2.2.2.2.1 bt536.2.2.2.2.2).bind fun t554 => ((steepleref25_Conds.f k bt536.1 bt536.2.1 bt536.2.2.1 bt536.2.2.2.1 bt536.2.2.2.2.1 bt536.2.2.2.2.2).bind fun t557 => (if (t557.length : Int) > 40 then (steeplelaw25_CircuitLays.j0 k bt545.1 bt545.2 bt549.1 bt549.2 2 t554 t557) else (steeplelaw25_CircuitLays.j0 k bt545.1 bt545.2 bt549.1 bt549.2 t553 t554 t557)))) else (steeplelaw25_CircuitLays.j0 k bt545.1 bt545.2 bt549.1 bt549.2 t553 ([] : List (S47)) ([] : List (List (S52)))))))))) = some r := h
 clear h
 by_cases c2 : (l0_5.length : Int) > 40
 ·rw [if_pos c2] at H
  have c2b0 : decide (40 < (l0_5.length : Int)) = true := decide_eq_true c2
  have c2b1 : decide (40 < l0_5.length) = true := decide_eq_true (by omega)
  clear c2; replace H := Option.bind_eq_some_iff.mp H; obtain ⟨t535, A30, H⟩ := H; replace H : (some t535) = some r := H; have A3 := Aside0.mk A30; clear A30; obtain rfl := Option.some.inj H
  go_enter Try.func3, Try.ntmps3
  go_wp2_with (first | ((with_reducible refine gate_dst (N := 1) rfl ?_); (try (refine gate_guard (by rfl) ?_; dsimp only)); refine box_event ?hg (N := 1) ?hd (cs := #[.int .i64 a0_0, .int .i64 a0_1, .int .i64 a0_2, .int .i64 a0_3, .int .i64 a0_4, .slice A0_5 l0_5.length c0_5]) (t := 24) ?hr ?_; (case hd => rfl); (case hg => rfl); (case hr => first | (go_simp; done) | (go_simp; rfl)); intro gb534 hg w4 hbox hb; have n0_ := Aside0.mk (below_step (blA HB.out) hb); have n1_ := Aside0.mk (hbox); have n2_ := Aside0.mk ((by rw [hg]; exact (below_size (blA HB.out)) : w.heap.size ≤ gb534)); have n3_ := Aside0.mk ((by rw [hg]; exact (below_size (blA HB.out)) : w.heap.size ≤ gb534)); clear HB; have HB := n0_; have BK534 := n1_; have GW534 := n2_; have GE534 := n3_; clear n0_ n1_ n2_ n3_; clear hb hbox hg; have hcz5 := fun i => blk_cell BK534.out i; have hfz5 := fun i => blk_frozen BK534.out i; ) | (go_at_call 12; (with_reducible refine (steeplelaw25_awake.calls k  t535 _ A3.out).mono ?_); rintro e w6 ⟨rfl, hb⟩; have n0_ := Aside0.mk (blk_below (bkA BK534.out) hb); have n1_ := Aside0.mk (below_step (blA HB.out) hb); clear BK534; clear HB; have BK534 := n0_; have HB := n1_; clear n0_ n1_; (try clear hb)))
  repeat (go_quiet (first | ((with_reducible refine gate_dst (N := 1) rfl ?_); (try (refine gate_guard (by rfl) ?_; dsimp only)); refine box_event ?hg (N := 1) ?hd (cs := #[.int .i64 a0_0, .int .i64 a0_1, .int .i64 a0_2, .int .i64 a0_3, .int .i64 a0_4, .slice A0_5 l0_5.length c0_5]) (t := 24) ?hr ?_; (case hd => rfl); (case hg => rfl); (case hr => first | (go_simp; done) | (go_simp; rfl)); intro gb534 hg w4 hbox hb; have n0_ := Aside0.mk (below_step (blA HB.out) hb); have n1_ := Aside0.mk (hbox); have n2_ := Aside0.mk ((by rw [hg]; exact (below_size (blA HB.out)) : w.heap.size ≤ gb534)); have n3_ := Aside0.mk ((by rw [hg]; exact (below_size (blA HB.out)) : w.heap.size ≤ gb534)); clear HB; have HB := n0_; have BK534 := n1_; have GW534 := n2_; have GE534 := n3_; clear n0_ n1_ n2_ n3_; clear hb hbox hg; have hcz5 := fun i => blk_cell BK534.out i; have hfz5 := fun i => blk_frozen BK534.out i; ) | (go_at_call 12; (with_reducible refine (steeplelaw25_awake.calls k  t535 _ A3.out).mono ?_); rintro e w6 ⟨rfl, hb⟩; have n0_ := Aside0.mk (blk_below (bkA BK534.out) hb); have n1_ := Aside0.mk (below_step (blA HB.out) hb); clear BK534; clear HB; have BK534 := n0_; have HB := n1_; clear n0_ n1_; (try clear hb))); try go_wp2_with (first | ((with_reducible refine gate_dst (N := 1) rfl ?_); (try (refine gate_guard (by rfl) ?_; dsimp only)); refine box_event ?hg (N := 1) ?hd (cs := #[.int .i64 a0_0, .int .i64 a0_1, .int .i64 a0_2, .int .i64 a0_3, .int .i64 a0_4, .slice A0_5 l0_5.length c0_5]) (t := 24) ?hr ?_; (case hd => rfl); (case hg => rfl); (case hr => first | (go_simp; done) | (go_simp; rfl)); intro gb534 hg w4 hbox hb; have n0_ := Aside0.mk (below_step (blA HB.out) hb); have n1_ := Aside0.mk (hbox); have n2_ := Aside0.mk ((by rw [hg]; exact (below_size (blA HB.out)) : w.heap.size ≤ gb534)); have n3_ := Aside0.mk ((by rw [hg]; exact (below_size (blA HB.out)) : w.heap.size ≤ gb534)); clear HB; have HB := n0_; have BK534 := n1_; have GW534 := n2_; have GE534 := n3_; clear n0_ n1_ n2_ n3_; clear hb hbox hg; have hcz5 := fun i => blk_cell BK534.out i; have hfz5 := fun i => blk_frozen BK534.out i; ) | (go_at_call 12; (with_reducible refine (steeplelaw25_awake.calls k  t535 _ A3.out).mono ?_); rintro e w6 ⟨rfl, hb⟩; have n0_ := Aside0.mk (blk_below (bkA BK534.out) hb); have n1_ := Aside0.mk (below_step (blA HB.out) hb); clear BK534; clear HB; have BK534 := n0_; have HB := n1_; clear n0_ n1_; (try clear hb))))
  go_ret
  exact ⟨by first | rfl | (simp [errW_none, errW_some] <;> rfl) | (simp [*, errW_none, errW_some] <;> rfl), blA HB.out⟩
 ·rw [if_neg c2] at H
  have c2b0 : decide (40 < (l0_5.length : Int)) = false := decide_eq_false c2
  have c2b1 : decide (40 < l0_5.length) = false := decide_eq_false (by omega)
  clear c2; replace H := Option.bind_eq_some_iff.mp H
  obtain ⟨⟨t536, t537, t538, t539, t540, t541⟩, A70, H⟩ := H
  (try dsimp only at H)
  have A7 := Aside0.mk A70; clear A70; replace H := Option.bind_eq_some_iff.mp H
  obtain ⟨⟨t545, t548⟩, A80, H⟩ := H
  (try dsimp only at H)
  have A8 := Aside0.mk A80; clear A80; replace H := Option.bind_eq_some_iff.mp H
  obtain ⟨⟨t549, t552⟩, A90, H⟩ := H
  (try dsimp only at H)
  have A9 := Aside0.mk A90; clear A90; replace H := Option.bind_eq_some_iff.mp H; obtain ⟨t553, A100, H⟩ := H
  (try dsimp only at H)
  have A10 := Aside0.mk A100; clear A100; have HC11 := Aside0.mk H; clear H
  go_enter Try.func3, Try.ntmps3
  go_upto_if 36 with (first | ((with_reducible refine gate_dst (N := 1) rfl ?_); (try (refine gate_guard (by rfl) ?_; dsimp only)); refine box_event ?hg (N := 1) ?hd (cs := #[.int .i64 a0_0, .int .i64 a0_1, .int .i64 a0_2, .int .i64 a0_3, .int .i64 a0_4, .slice A0_5 l0_5.length c0_5]) (t := 24) ?hr ?_; (case hd => rfl); (case hg => rfl); (case hr => first | (go_simp; done) | (go_simp; rfl)); intro gb534 hg w12 hbox hb; have n0_ := Aside0.mk (below_step (blA HB.out) hb); have n1_ := Aside0.mk (hbox); have n2_ := Aside0.mk ((by rw [hg]; exact (below_size (blA HB.out)) : w.heap.size ≤ gb534)); have n3_ := Aside0.mk ((by rw [hg]; exact (below_size (blA HB.out)) : w.heap.size ≤ gb534)); clear HB; have HB := n0_; have BK534 := n1_; have GW534 := n2_; have GE534 := n3_; clear n0_ n1_ n2_ n3_; clear hb hbox hg; have hcz13 := fun i => blk_cell BK534.out i; have hfz13 := fun i => blk_frozen BK534.out i; ) | (go_at_call 13; (with_reducible refine (steeplelaw25_Ref.calls k a0_0 a0_1 a0_2 a0_3 a0_4 _ _ l0_5 t536 t537 t538 t539 t540 t541 _ ?side1 ?side2 A7.out).mono ?_); (case side1 => repeat (first | exact (Kd.C_below HR0_5.out HB.out) | (with_reducible refine Kd.C_alloc ?_ _) | (with_reducible refine Kd.C_drewN ?_ _) | (with_reducible refine Kd.C_drew ?_))); (case side2 => exact HC0_5.out); rintro e w14 ⟨v542, rfl, ho0, hb⟩; have n0_ := Aside0.mk (Kd.R_lower ho0 (below_size (blA HB.out))); have n1_ := Aside0.mk (blk_below (bkA BK534.out) hb); have n2_ := Aside0.mk (below_step (blA HB.out) hb); clear BK534; clear HB; have HO543 := n0_; have BK534 := n1_; have HB := n2_; clear n0_ n1_ n2_; (try clear hb); (try clear ho0)) | ((with_reducible refine gate_dst (N := 3) rfl ?_); (try (refine gate_guard (by rfl) ?_; dsimp only)); refine box_event ?hg (N := 3) ?hd (cs := #[.int .i64 0, .int .i64 0, .int .i64 0, .int .i64 0, .int .i64 0, .slice none 0 0]) (t := 28) ?hr ?_; (case hd => rfl); (case hg => rfl); (case hr => first | (go_simp; done) | (go_simp; rfl)); intro gb544 hg w15 hbox hb; have n0_ := Aside0.mk (Kd.R_below (raA HO543.out) hb); have n1_ := Aside0.mk (blk_below (bkA BK534.out) hb); have n2_ := Aside0.mk (below_step (blA HB.out) hb); have n3_ := Aside0.mk (hbox); have n4_ := Aside0.mk ((by rw [hg]; exact (below_size (blA HB.out)) : w.heap.size ≤ gb544)); have n5_ := Aside0.mk ((by rw [hg]; exact (below_size (blA HB.out)) : w.heap.size ≤ gb544)); have n6_ := Aside0.mk ((by rw [hg]; exact Nat.ne_of_lt (blk_lt (bkA BK534.out)) : gb534 ≠ gb544)); have n7_ := Aside0.mk ((by rw [hg]; exact Nat.ne_of_gt (blk_lt (bkA BK534.out)) : gb544 ≠ gb534)); clear HO543; clear BK534; clear HB; have HO543 := n0_; have BK534 := n1_; have HB := n2_; have BK544 := n3_; have GW544 := n4_; have GE544 := n5_; have NB534_544 := n6_; have NB544_534 := n7_; clear n0_ n1_ n2_ n3_ n4_ n5_ n6_ n7_; clear hb hbox hg; have hnb16 := NB544_534.out; have hnc16 := NB534_544.out; have hcz17 := fun i => blk_cell BK544.out i; have hfz17 := fun i => blk_frozen BK544.out i; obtain ⟨Ao18, co18, eo18⟩ := Kd.R_slice HO543.out; subst eo18; have hcz19 := fun i => blk_cell BK534.out i; have hfz19 := fun i => blk_frozen BK534.out i; ) | (go_at_call 14; (with_reducible refine (circuit_Wires.calls k a0_0 a0_1 a0_2 a0_3 a0_4 _ _ l0_5 t545 t548 _ ?side1 ?side2 A8.out).mono ?_); (case side1 => exact Kd.C_below HR0_5.out (blA HB.out)); (case side2 => exact HC0_5.out); rintro e w20 ⟨v546, rfl, ho0, hb⟩; have n0_ := Aside0.mk (Kd.R_below (by (with_reducible repeat (first | apply Kd.R_alloc | apply Kd.R_drewN | apply Kd.R_drew)); exact (Kd.R_mono (Kd.R_far (p := ⟨gb544, 5, none⟩) (Kd.R_far (p := ⟨gb544, 4, none⟩) (Kd.R_far (p := ⟨gb544, 3, none⟩) (Kd.R_far (p := ⟨gb544, 2, none⟩) (Kd.R_far (p := ⟨gb544, 1, none⟩) (Kd.R_far (p := ⟨gb544, 0, none⟩) (Kd.R_types HO543.out BK544.out (by decide)) (fun _ hk => hk.2) (.int .i64 t536)) (fun _ hk => hk.2) (.int .i64 t537)) (fun _ hk => hk.2) (.int .i64 t538)) (fun _ hk => hk.2) (.int .i64 t539)) (fun _ hk => hk.2) (.int .i64 t540)) (fun _ hk => hk.2) (.slice Ao18 t541.length co18)) (fun _ h_ => h_.1))) hb); have n1_ := Aside0.mk (Kd.R_lower ho0 (below_size (blA HB.out))); have n2_ := Aside0.mk (blk_below (g := gb534) (o := .cells #[.int .i64 a0_0, .int .i64 a0_1, .int .i64 a0_2, .int .i64 a0_3, .int .i64 a0_4, .slice A0_5 l0_5.length c0_5] 24 (0, 0)) (by refine bkA ?_; refine blk_far ?_ NB534_544.out _; refine bkA ?_; refine blk_far ?_ NB534_544.out _; refine bkA ?_; refine blk_far ?_ NB534_544.out _; refine bkA ?_; refine blk_far ?_ NB534_544.out _; refine bkA ?_; refine blk_far ?_ NB534_544.out _; refine bkA ?_; refine blk_far ?_ NB534_544.out _; refine bkA ?_; exact BK534.out) hb); have n3_ := Aside0.mk (blk_below (g := gb544) (o := .cells #[.int .i64 t536, .int .i64 t537, .int .i64 t538, .int .i64 t539, .int .i64 t540, .slice Ao18 t541.length co18] 28 (0, 0)) (by refine bkA ?_; refine blk_put (cs := #[.int .i64 t536, .int .i64 t537, .int .i64 t538, .int .i64 t539, .int .i64 t540, .slice none 0 0]) ?_ 5 _ rfl; refine bkA ?_; refine blk_put (cs := #[.int .i64 t536, .int .i64 t537, .int .i64 t538, .int .i64 t539, .int .i64 0, .slice none 0 0]) ?_ 4 _ rfl; refine bkA ?_; refine blk_put (cs := #[.int .i64 t536, .int .i64 t537, .int .i64 t538, .int .i64 0, .int .i64 0, .slice none 0 0]) ?_ 3 _ rfl; refine bkA ?_; refine blk_put (cs := #[.int .i64 t536, .int .i64 t537, .int .i64 0, .int .i64 0, .int .i64 0, .slice none 0 0]) ?_ 2 _ rfl; refine bkA ?_; refine blk_put (cs := #[.int .i64 t536, .int .i64 0, .int .i64 0, .int .i64 0, .int .i64 0, .slice none 0 0]) ?_ 1 _ rfl; refine bkA ?_; refine blk_put (cs := #[.int .i64 0, .int .i64 0, .int .i64 0, .int .i64 0, .int .i64 0, .slice none 0 0]) ?_ 0 _ rfl; refine bkA ?_; exact BK544.out) hb); have n4_ := Aside0.mk (below_step (blA HB.out) hb); clear HO543; clear BK534; clear BK544; clear HB; have HO543 := n0_; have HO547 := n1_; have BK534 := n2_; have BK544 := n3_; have HB := n4_; clear n0_ n1_ n2_ n3_ n4_; (try clear hb); (try clear ho0); have hcz21 := fun i => blk_cell BK534.out i; have hfz21 := fun i => blk_frozen BK534.out i; ) | (go_at_call 15; (with_reducible refine (circuit_Conds.calls k a0_0 a0_1 a0_2 a0_3 a0_4 _ _ l0_5 t549 t552 _ ?side1 ?side2 A9.out).mono ?_); (case side1 => repeat (first | exact (Kd.C_below HR0_5.out HB.out) | (with_reducible refine Kd.C_alloc ?_ _) | (with_reducible refine Kd.C_drewN ?_ _) | (with_reducible refine Kd.C_drew ?_))); (case side2 => exact HC0_5.out); rintro e w22 ⟨v550, rfl, ho0, hb⟩; have n0_ := Aside0.mk (Kd.R_below (raA HO543.out) hb); have n1_ := Aside0.mk (Kd.R_below (raA HO547.out) hb); have n2_ := Aside0.mk (Kd.N_lower (Kd.N_mono (ok' := fun k_ => some k_ ≠ (.slice Ao18 t541.length co18 : Value).ownBlock ∧ some k_ ≠ (v546 : Value).ownBlock ∧ k_ ≠ gb534 ∧ k_ ≠ gb544) ho0 (fun k_ hk_ => ⟨(Kd.fresh' (Kd.R_lt (raA HO543.out)) k_ hk_), (Kd.fresh' (Kd.R_lt (raA HO547.out)) k_ hk_), (Kd.freshB (bkA BK534.out) k_ hk_), (Kd.freshB (bkA BK544.out) k_ hk_)⟩)) (below_size (blA HB.out))); have n3_ := Aside0.mk (blk_below (bkA BK534.out) hb); have n4_ := Aside0.mk (blk_below (bkA BK544.out) hb); have n5_ := Aside0.mk (below_step (blA HB.out) hb); clear HO543; clear HO547; clear BK534; clear BK544; clear HB; have HO543 := n0_; have HO547 := n1_; have HO551 := n2_; have BK534 := n3_; have BK544 := n4_; have HB := n5_; clear n0_ n1_ n2_ n3_ n4_ n5_; (try clear hb); (try clear ho0); have hcz23 := fun i => blk_cell BK544.out i; have hfz23 := fun i => blk_frozen BK544.out i; ) | (go_at_call 16; (with_reducible refine (steepleref25_Check.calls k t536 t537 t538 t539 t540 _ _ t541 t553 _ ?side1 ?side2 A10.out).mono ?_); (case side1 => repeat (first | exact (Kd.R_reads' HO543.out).2.2 | (with_reducible refine Kd.C_alloc ?_ _) | (with_reducible refine Kd.C_drewN ?_ _) | (with_reducible refine Kd.C_drew ?_))); (case side2 => exact (Kd.R_reads' HO543.out).2.1); rintro e w24 ⟨rfl, hb⟩; have n0_ := Aside0.mk (Kd.R_below (raA HO543.out) hb); have n1_ := Aside0.mk (Kd.R_below (raA HO547.out) hb); have n2_ := Aside0.mk (Kd.N_below (naA HO551.out) hb); have n3_ := Aside0.mk (blk_below (bkA BK534.out) hb); have n4_ := Aside0.mk (blk_below (bkA BK544.out) hb); have n5_ := Aside0.mk (below_step (blA HB.out) hb); clear HO543; clear HO547; clear HO551; clear BK534; clear BK544; clear HB; have HO543 := n0_; have HO547 := n1_; have HO551 := n2_; have BK534 := n3_; have BK544 := n4_; have HB := n5_; clear n0_ n1_ n2_ n3_ n4_ n5_; (try clear hb)))
  repeat (go_quiet (first | ((with_reducible refine gate_dst (N := 1) rfl ?_); (try (refine gate_guard (by rfl) ?_; dsimp only)); refine box_event ?hg (N := 1) ?hd (cs := #[.int .i64 a0_0, .int .i64 a0_1, .int .i64 a0_2, .int .i64 a0_3, .int .i64 a0_4, .slice A0_5 l0_5.length c0_5]) (t := 24) ?hr ?_; (case hd => rfl); (case hg => rfl); (case hr => first | (go_simp; done) | (go_simp; rfl)); intro gb534 hg w12 hbox hb; have n0_ := Aside0.mk (below_step (blA HB.out) hb); have n1_ := Aside0.mk (hbox); have n2_ := Aside0.mk ((by rw [hg]; exact (below_size (blA HB.out)) : w.heap.size ≤ gb534)); have n3_ := Aside0.mk ((by rw [hg]; exact (below_size (blA HB.out)) : w.heap.size ≤ gb534)); clear HB; have HB := n0_; have BK534 := n1_; have GW534 := n2_; have GE534 := n3_; clear n0_ n1_ n2_ n3_; clear hb hbox hg; have hcz13 := fun i => blk_cell BK534.out i; have hfz13 := fun i => blk_frozen BK534.out i; ) | (go_at_call 13; (with_reducible refine (steeplelaw25_Ref.calls k a0_0 a0_1 a0_2 a0_3 a0_4 _ _ l0_5 t536 t537 t538 t539 t540 t541 _ ?side1 ?side2 A7.out).mono ?_); (case side1 => repeat (first | exact (Kd.C_below HR0_5.out HB.out) | (with_reducible refine Kd.C_alloc ?_ _) | (with_reducible refine Kd.C_drewN ?_ _) | (with_reducible refine Kd.C_drew ?_))); (case side2 => exact HC0_5.out); rintro e w14 ⟨v542, rfl, ho0, hb⟩; have n0_ := Aside0.mk (Kd.R_lower ho0 (below_size (blA HB.out))); have n1_ := Aside0.mk (blk_below (bkA BK534.out) hb); have n2_ := Aside0.mk (below_step (blA HB.out) hb); clear BK534; clear HB; have HO543 := n0_; have BK534 := n1_; have HB := n2_; clear n0_ n1_ n2_; (try clear hb); (try clear ho0)) | ((with_reducible refine gate_dst (N := 3) rfl ?_); (try (refine gate_guard (by rfl) ?_; dsimp only)); refine box_event ?hg (N := 3) ?hd (cs := #[.int .i64 0, .int .i64 0, .int .i64 0, .int .i64 0, .int .i64 0, .slice none 0 0]) (t := 28) ?hr ?_; (case hd => rfl); (case hg => rfl); (case hr => first | (go_simp; done) | (go_simp; rfl)); intro gb544 hg w15 hbox hb; have n0_ := Aside0.mk (Kd.R_below (raA HO543.out) hb); have n1_ := Aside0.mk (blk_below (bkA BK534.out) hb); have n2_ := Aside0.mk (below_step (blA HB.out) hb); have n3_ := Aside0.mk (hbox); have n4_ := Aside0.mk ((by rw [hg]; exact (below_size (blA HB.out)) : w.heap.size ≤ gb544)); have n5_ := Aside0.mk ((by rw [hg]; exact (below_size (blA HB.out)) : w.heap.size ≤ gb544)); have n6_ := Aside0.mk ((by rw [hg]; exact Nat.ne_of_lt (blk_lt (bkA BK534.out)) : gb534 ≠ gb544)); have n7_ := Aside0.mk ((by rw [hg]; exact Nat.ne_of_gt (blk_lt (bkA BK534.out)) : gb544 ≠ gb534)); clear HO543; clear BK534; clear HB; have HO543 := n0_; have BK534 := n1_; have HB := n2_; have BK544 := n3_; have GW544 := n4_; have GE544 := n5_; have NB534_544 := n6_; have NB544_534 := n7_; clear n0_ n1_ n2_ n3_ n4_ n5_ n6_ n7_; clear hb hbox hg; have hnb16 := NB544_534.out; have hnc16 := NB534_544.out; have hcz17 := fun i => blk_cell BK544.out i; have hfz17 := fun i => blk_frozen BK544.out i; obtain ⟨Ao18, co18, eo18⟩ := Kd.R_slice HO543.out; subst eo18; have hcz19 := fun i => blk_cell BK534.out i; have hfz19 := fun i => blk_frozen BK534.out i; ) | (go_at_call 14; (with_reducible refine (circuit_Wires.calls k a0_0 a0_1 a0_2 a0_3 a0_4 _ _ l0_5 t545 t548 _ ?side1 ?side2 A8.out).mono ?_); (case side1 => exact Kd.C_below HR0_5.out (blA HB.out)); (case side2 => exact HC0_5.out); rintro e w20 ⟨v546, rfl, ho0, hb⟩; have n0_ := Aside0.mk (Kd.R_below (by (with_reducible repeat (first | apply Kd.R_alloc | apply Kd.R_drewN | apply Kd.R_drew)); exact (Kd.R_mono (Kd.R_far (p := ⟨gb544, 5, none⟩) (Kd.R_far (p := ⟨gb544, 4, none⟩) (Kd.R_far (p := ⟨gb544, 3, none⟩) (Kd.R_far (p := ⟨gb544, 2, none⟩) (Kd.R_far (p := ⟨gb544, 1, none⟩) (Kd.R_far (p := ⟨gb544, 0, none⟩) (Kd.R_types HO543.out BK544.out (by decide)) (fun _ hk => hk.2) (.int .i64 t536)) (fun _ hk => hk.2) (.int .i64 t537)) (fun _ hk => hk.2) (.int .i64 t538)) (fun _ hk => hk.2) (.int .i64 t539)) (fun _ hk => hk.2) (.int .i64 t540)) (fun _ hk => hk.2) (.slice Ao18 t541.length co18)) (fun _ h_ => h_.1))) hb); have n1_ := Aside0.mk (Kd.R_lower ho0 (below_size (blA HB.out))); have n2_ := Aside0.mk (blk_below (g := gb534) (o := .cells #[.int .i64 a0_0, .int .i64 a0_1, .int .i64 a0_2, .int .i64 a0_3, .int .i64 a0_4, .slice A0_5 l0_5.length c0_5] 24 (0, 0)) (by refine bkA ?_; refine blk_far ?_ NB534_544.out _; refine bkA ?_; refine blk_far ?_ NB534_544.out _; refine bkA ?_; refine blk_far ?_ NB534_544.out _; refine bkA ?_; refine blk_far ?_ NB534_544.out _; refine bkA ?_; refine blk_far ?_ NB534_544.out _; refine bkA ?_; refine blk_far ?_ NB534_544.out _; refine bkA ?_; exact BK534.out) hb); have n3_ := Aside0.mk (blk_below (g := gb544) (o := .cells #[.int .i64 t536, .int .i64 t537, .int .i64 t538, .int .i64 t539, .int .i64 t540, .slice Ao18 t541.length co18] 28 (0, 0)) (by refine bkA ?_; refine blk_put (cs := #[.int .i64 t536, .int .i64 t537, .int .i64 t538, .int .i64 t539, .int .i64 t540, .slice none 0 0]) ?_ 5 _ rfl; refine bkA ?_; refine blk_put (cs := #[.int .i64 t536, .int .i64 t537, .int .i64 t538, .int .i64 t539, .int .i64 0, .slice none 0 0]) ?_ 4 _ rfl; refine bkA ?_; refine blk_put (cs := #[.int .i64 t536, .int .i64 t537, .int .i64 t538, .int .i64 0, .int .i64 0, .slice none 0 0]) ?_ 3 _ rfl; refine bkA ?_; refine blk_put (cs := #[.int .i64 t536, .int .i64 t537, .int .i64 0, .int .i64 0, .int .i64 0, .slice none 0 0]) ?_ 2 _ rfl; refine bkA ?_; refine blk_put (cs := #[.int .i64 t536, .int .i64 0, .int .i64 0, .int .i64 0, .int .i64 0, .slice none 0 0]) ?_ 1 _ rfl; refine bkA ?_; refine blk_put (cs := #[.int .i64 0, .int .i64 0, .int .i64 0, .int .i64 0, .int .i64 0, .slice none 0 0]) ?_ 0 _ rfl; refine bkA ?_; exact BK544.out) hb); have n4_ := Aside0.mk (below_step (blA HB.out) hb); clear HO543; clear BK534; clear BK544; clear HB; have HO543 := n0_; have HO547 := n1_; have BK534 := n2_; have BK544 := n3_; have HB := n4_; clear n0_ n1_ n2_ n3_ n4_; (try clear hb); (try clear ho0); have hcz21 := fun i => blk_cell BK534.out i; have hfz21 := fun i => blk_frozen BK534.out i; ) | (go_at_call 15; (with_reducible refine (circuit_Conds.calls k a0_0 a0_1 a0_2 a0_3 a0_4 _ _ l0_5 t549 t552 _ ?side1 ?side2 A9.out).mono ?_); (case side1 => repeat (first | exact (Kd.C_below HR0_5.out HB.out) | (with_reducible refine Kd.C_alloc ?_ _) | (with_reducible refine Kd.C_drewN ?_ _) | (with_reducible refine Kd.C_drew ?_))); (case side2 => exact HC0_5.out); rintro e w22 ⟨v550, rfl, ho0, hb⟩; have n0_ := Aside0.mk (Kd.R_below (raA HO543.out) hb); have n1_ := Aside0.mk (Kd.R_below (raA HO547.out) hb); have n2_ := Aside0.mk (Kd.N_lower (Kd.N_mono (ok' := fun k_ => some k_ ≠ (.slice Ao18 t541.length co18 : Value).ownBlock ∧ some k_ ≠ (v546 : Value).ownBlock ∧ k_ ≠ gb534 ∧ k_ ≠ gb544) ho0 (fun k_ hk_ => ⟨(Kd.fresh' (Kd.R_lt (raA HO543.out)) k_ hk_), (Kd.fresh' (Kd.R_lt (raA HO547.out)) k_ hk_), (Kd.freshB (bkA BK534.out) k_ hk_), (Kd.freshB (bkA BK544.out) k_ hk_)⟩)) (below_size (blA HB.out))); have n3_ := Aside0.mk (blk_below (bkA BK534.out) hb); have n4_ := Aside0.mk (blk_below (bkA BK544.out) hb); have n5_ := Aside0.mk (below_step (blA HB.out) hb); clear HO543; clear HO547; clear BK534; clear BK544; clear HB; have HO543 := n0_; have HO547 := n1_; have HO551 := n2_; have BK534 := n3_; have BK544 := n4_; have HB := n5_; clear n0_ n1_ n2_ n3_ n4_ n5_; (try clear hb); (try clear ho0); have hcz23 := fun i => blk_cell BK544.out i; have hfz23 := fun i => blk_frozen BK544.out i; ) | (go_at_call 16; (with_reducible refine (steepleref25_Check.calls k t536 t537 t538 t539 t540 _ _ t541 t553 _ ?side1 ?side2 A10.out).mono ?_); (case side1 => repeat (first | exact (Kd.R_reads' HO543.out).2.2 | (with_reducible refine Kd.C_alloc ?_ _) | (with_reducible refine Kd.C_drewN ?_ _) | (with_reducible refine Kd.C_drew ?_))); (case side2 => exact (Kd.R_reads' HO543.out).2.1); rintro e w24 ⟨rfl, hb⟩; have n0_ := Aside0.mk (Kd.R_below (raA HO543.out) hb); have n1_ := Aside0.mk (Kd.R_below (raA HO547.out) hb); have n2_ := Aside0.mk (Kd.N_below (naA HO551.out) hb); have n3_ := Aside0.mk (blk_below (bkA BK534.out) hb); have n4_ := Aside0.mk (blk_below (bkA BK544.out) hb); have n5_ := Aside0.mk (below_step (blA HB.out) hb); clear HO543; clear HO547; clear HO551; clear BK534; clear BK544; clear HB; have HO543 := n0_; have HO547 := n1_; have HO551 := n2_; have BK534 := n3_; have BK544 := n4_; have HB := n5_; clear n0_ n1_ n2_ n3_ n4_ n5_; (try clear hb))); go_upto_if 36 with (first | ((with_reducible refine gate_dst (N := 1) rfl ?_); (try (refine gate_guard (by rfl) ?_; dsimp only)); refine box_event ?hg (N := 1) ?hd (cs := #[.int .i64 a0_0, .int .i64 a0_1, .int .i64 a0_2, .int .i64 a0_3, .int .i64 a0_4, .slice A0_5 l0_5.length c0_5]) (t := 24) ?hr ?_; (case hd => rfl); (case hg => rfl); (case hr => first | (go_simp; done) | (go_simp; rfl)); intro gb534 hg w12 hbox hb; have n0_ := Aside0.mk (below_step (blA HB.out) hb); have n1_ := Aside0.mk (hbox); have n2_ := Aside0.mk ((by rw [hg]; exact (below_size (blA HB.out)) : w.heap.size ≤ gb534)); have n3_ := Aside0.mk ((by rw [hg]; exact (below_size (blA HB.out)) : w.heap.size ≤ gb534)); clear HB; have HB := n0_; have BK534 := n1_; have GW534 := n2_; have GE534 := n3_; clear n0_ n1_ n2_ n3_; clear hb hbox hg; have hcz13 := fun i => blk_cell BK534.out i; have hfz13 := fun i => blk_frozen BK534.out i; ) | (go_at_call 13; (with_reducible refine (steeplelaw25_Ref.calls k a0_0 a0_1 a0_2 a0_3 a0_4 _ _ l0_5 t536 t537 t538 t539 t540 t541 _ ?side1 ?side2 A7.out).mono ?_); (case side1 => repeat (first | exact (Kd.C_below HR0_5.out HB.out) | (with_reducible refine Kd.C_alloc ?_ _) | (with_reducible refine Kd.C_drewN ?_ _) | (with_reducible refine Kd.C_drew ?_))); (case side2 => exact HC0_5.out); rintro e w14 ⟨v542, rfl, ho0, hb⟩; have n0_ := Aside0.mk (Kd.R_lower ho0 (below_size (blA HB.out))); have n1_ := Aside0.mk (blk_below (bkA BK534.out) hb); have n2_ := Aside0.mk (below_step (blA HB.out) hb); clear BK534; clear HB; have HO543 := n0_; have BK534 := n1_; have HB := n2_; clear n0_ n1_ n2_; (try clear hb); (try clear ho0)) | ((with_reducible refine gate_dst (N := 3) rfl ?_); (try (refine gate_guard (by rfl) ?_; dsimp only)); refine box_event ?hg (N := 3) ?hd (cs := #[.int .i64 0, .int .i64 0, .int .i64 0, .int .i64 0, .int .i64 0, .slice none 0 0]) (t := 28) ?hr ?_; (case hd => rfl); (case hg => rfl); (case hr => first | (go_simp; done) | (go_simp; rfl)); intro gb544 hg w15 hbox hb; have n0_ := Aside0.mk (Kd.R_below (raA HO543.out) hb); have n1_ := Aside0.mk (blk_below (bkA BK534.out) hb); have n2_ := Aside0.mk (below_step (blA HB.out) hb); have n3_ := Aside0.mk (hbox); have n4_ := Aside0.mk ((by rw [hg]; exact (below_size (blA HB.out)) : w.heap.size ≤ gb544)); have n5_ := Aside0.mk ((by rw [hg]; exact (below_size (blA HB.out)) : w.heap.size ≤ gb544)); have n6_ := Aside0.mk ((by rw [hg]; exact Nat.ne_of_lt (blk_lt (bkA BK534.out)) : gb534 ≠ gb544)); have n7_ := Aside0.mk ((by rw [hg]; exact Nat.ne_of_gt (blk_lt (bkA BK534.out)) : gb544 ≠ gb534)); clear HO543; clear BK534; clear HB; have HO543 := n0_; have BK534 := n1_; have HB := n2_; have BK544 := n3_; have GW544 := n4_; have GE544 := n5_; have NB534_544 := n6_; have NB544_534 := n7_; clear n0_ n1_ n2_ n3_ n4_ n5_ n6_ n7_; clear hb hbox hg; have hnb16 := NB544_534.out; have hnc16 := NB534_544.out; have hcz17 := fun i => blk_cell BK544.out i; have hfz17 := fun i => blk_frozen BK544.out i; obtain ⟨Ao18, co18, eo18⟩ := Kd.R_slice HO543.out; subst eo18; have hcz19 := fun i => blk_cell BK534.out i; have hfz19 := fun i => blk_frozen BK534.out i; ) | (go_at_call 14; (with_reducible refine (circuit_Wires.calls k a0_0 a0_1 a0_2 a0_3 a0_4 _ _ l0_5 t545 t548 _ ?side1 ?side2 A8.out).mono ?_); (case side1 => exact Kd.C_below HR0_5.out (blA HB.out)); (case side2 => exact HC0_5.out); rintro e w20 ⟨v546, rfl, ho0, hb⟩; have n0_ := Aside0.mk (Kd.R_below (by (with_reducible repeat (first | apply Kd.R_alloc | apply Kd.R_drewN | apply Kd.R_drew)); exact (Kd.R_mono (Kd.R_far (p := ⟨gb544, 5, none⟩) (Kd.R_far (p := ⟨gb544, 4, none⟩) (Kd.R_far (p := ⟨gb544, 3, none⟩) (Kd.R_far (p := ⟨gb544, 2, none⟩) (Kd.R_far (p := ⟨gb544, 1, none⟩) (Kd.R_far (p := ⟨gb544, 0, none⟩) (Kd.R_types HO543.out BK544.out (by decide)) (fun _ hk => hk.2) (.int .i64 t536)) (fun _ hk => hk.2) (.int .i64 t537)) (fun _ hk => hk.2) (.int .i64 t538)) (fun _ hk => hk.2) (.int .i64 t539)) (fun _ hk => hk.2) (.int .i64 t540)) (fun _ hk => hk.2) (.slice Ao18 t541.length co18)) (fun _ h_ => h_.1))) hb); have n1_ := Aside0.mk (Kd.R_lower ho0 (below_size (blA HB.out))); have n2_ := Aside0.mk (blk_below (g := gb534) (o := .cells #[.int .i64 a0_0, .int .i64 a0_1, .int .i64 a0_2, .int .i64 a0_3, .int .i64 a0_4, .slice A0_5 l0_5.length c0_5] 24 (0, 0)) (by refine bkA ?_; refine blk_far ?_ NB534_544.out _; refine bkA ?_; refine blk_far ?_ NB534_544.out _; refine bkA ?_; refine blk_far ?_ NB534_544.out _; refine bkA ?_; refine blk_far ?_ NB534_544.out _; refine bkA ?_; refine blk_far ?_ NB534_544.out _; refine bkA ?_; refine blk_far ?_ NB534_544.out _; refine bkA ?_; exact BK534.out) hb); have n3_ := Aside0.mk (blk_below (g := gb544) (o := .cells #[.int .i64 t536, .int .i64 t537, .int .i64 t538, .int .i64 t539, .int .i64 t540, .slice Ao18 t541.length co18] 28 (0, 0)) (by refine bkA ?_; refine blk_put (cs := #[.int .i64 t536, .int .i64 t537, .int .i64 t538, .int .i64 t539, .int .i64 t540, .slice none 0 0]) ?_ 5 _ rfl; refine bkA ?_; refine blk_put (cs := #[.int .i64 t536, .int .i64 t537, .int .i64 t538, .int .i64 t539, .int .i64 0, .slice none 0 0]) ?_ 4 _ rfl; refine bkA ?_; refine blk_put (cs := #[.int .i64 t536, .int .i64 t537, .int .i64 t538, .int .i64 0, .int .i64 0, .slice none 0 0]) ?_ 3 _ rfl; refine bkA ?_; refine blk_put (cs := #[.int .i64 t536, .int .i64 t537, .int .i64 0, .int .i64 0, .int .i64 0, .slice none 0 0]) ?_ 2 _ rfl; refine bkA ?_; refine blk_put (cs := #[.int .i64 t536, .int .i64 0, .int .i64 0, .int .i64 0, .int .i64 0, .slice none 0 0]) ?_ 1 _ rfl; refine bkA ?_; refine blk_put (cs := #[.int .i64 0, .int .i64 0, .int .i64 0, .int .i64 0, .int .i64 0, .slice none 0 0]) ?_ 0 _ rfl; refine bkA ?_; exact BK544.out) hb); have n4_ := Aside0.mk (below_step (blA HB.out) hb); clear HO543; clear BK534; clear BK544; clear HB; have HO543 := n0_; have HO547 := n1_; have BK534 := n2_; have BK544 := n3_; have HB := n4_; clear n0_ n1_ n2_ n3_ n4_; (try clear hb); (try clear ho0); have hcz21 := fun i => blk_cell BK534.out i; have hfz21 := fun i => blk_frozen BK534.out i; ) | (go_at_call 15; (with_reducible refine (circuit_Conds.calls k a0_0 a0_1 a0_2 a0_3 a0_4 _ _ l0_5 t549 t552 _ ?side1 ?side2 A9.out).mono ?_); (case side1 => repeat (first | exact (Kd.C_below HR0_5.out HB.out) | (with_reducible refine Kd.C_alloc ?_ _) | (with_reducible refine Kd.C_drewN ?_ _) | (with_reducible refine Kd.C_drew ?_))); (case side2 => exact HC0_5.out); rintro e w22 ⟨v550, rfl, ho0, hb⟩; have n0_ := Aside0.mk (Kd.R_below (raA HO543.out) hb); have n1_ := Aside0.mk (Kd.R_below (raA HO547.out) hb); have n2_ := Aside0.mk (Kd.N_lower (Kd.N_mono (ok' := fun k_ => some k_ ≠ (.slice Ao18 t541.length co18 : Value).ownBlock ∧ some k_ ≠ (v546 : Value).ownBlock ∧ k_ ≠ gb534 ∧ k_ ≠ gb544) ho0 (fun k_ hk_ => ⟨(Kd.fresh' (Kd.R_lt (raA HO543.out)) k_ hk_), (Kd.fresh' (Kd.R_lt (raA HO547.out)) k_ hk_), (Kd.freshB (bkA BK534.out) k_ hk_), (Kd.freshB (bkA BK544.out) k_ hk_)⟩)) (below_size (blA HB.out))); have n3_ := Aside0.mk (blk_below (bkA BK534.out) hb); have n4_ := Aside0.mk (blk_below (bkA BK544.out) hb); have n5_ := Aside0.mk (below_step (blA HB.out) hb); clear HO543; clear HO547; clear BK534; clear BK544; clear HB; have HO543 := n0_; have HO547 := n1_; have HO551 := n2_; have BK534 := n3_; have BK544 := n4_; have HB := n5_; clear n0_ n1_ n2_ n3_ n4_ n5_; (try clear hb); (try clear ho0); have hcz23 := fun i => blk_cell BK544.out i; have hfz23 := fun i => blk_frozen BK544.out i; ) | (go_at_call 16; (with_reducible refine (steepleref25_Check.calls k t536 t537 t538 t539 t540 _ _ t541 t553 _ ?side1 ?side2 A10.out).mono ?_); (case side1 => repeat (first | exact (Kd.R_reads' HO543.out).2.2 | (with_reducible refine Kd.C_alloc ?_ _) | (with_reducible refine Kd.C_drewN ?_ _) | (with_reducible refine Kd.C_drew ?_))); (case side2 => exact (Kd.R_reads' HO543.out).2.1); rintro e w24 ⟨rfl, hb⟩; have n0_ := Aside0.mk (Kd.R_below (raA HO543.out) hb); have n1_ := Aside0.mk (Kd.R_below (raA HO547.out) hb); have n2_ := Aside0.mk (Kd.N_below (naA HO551.out) hb); have n3_ := Aside0.mk (blk_below (bkA BK534.out) hb); have n4_ := Aside0.mk (blk_below (bkA BK544.out) hb); have n5_ := Aside0.mk (below_step (blA HB.out) hb); clear HO543; clear HO547; clear HO551; clear BK534; clear BK544; clear HB; have HO543 := n0_; have HO547 := n1_; have HO551 := n2_; have BK534 := n3_; have BK544 := n4_; have HB := n5_; clear n0_ n1_ n2_ n3_ n4_ n5_; (try clear hb))))
  (try simp only [Act.put, List.setIfInBounds_toArray, List.set_cons_zero, List.set_cons_succ])
  go_cut [8, 9, 10] (fun v8 v9 v10 wc => ∃ (kq : Nat) (x8_10 : Int) (x9_10 : List (S47)) (x10_10 : List (List (S52))), v8 = .int .i64 x8_10 ∧ Aside0 (steeplelaw25_CircuitLays.j0 kq t545 t548 t549 t552 x8_10 x9_10 x10_10 = some r) ∧ Aside0 (kq ≤ k) ∧ Aside0 (Kd.R k76 76 wc w.heap.size (fun _ => True) v546 t545) ∧ Aside0 (Kd.N (Kd.slice 118 k118) 50 wc w.heap.size (fun k_ => some k_ ≠ (v546 : Value).ownBlock ∧ some k_ ≠ (v9 : Value).ownBlock ∧ some k_ ≠ (v10 : Value).ownBlock ∧ some k_ ≠ ((.slice Ao18 t541.length co18) : Value).ownBlock ∧ k_ ≠ gb534 ∧ k_ ≠ gb544) v550 t549) ∧ Aside0 (Kd.R k47 47 wc w.heap.size (fun _ => True) v9 x9_10) ∧ Aside0 (Kd.N (Kd.slice 52 k52) 48 wc w.heap.size (fun k_ => some k_ ≠ (v546 : Value).ownBlock ∧ some k_ ≠ (v550 : Value).ownBlock ∧ some k_ ≠ (v9 : Value).ownBlock ∧ some k_ ≠ ((.slice Ao18 t541.length co18) : Value).ownBlock ∧ k_ ≠ gb534 ∧ k_ ≠ gb544) v10 x10_10) ∧ Aside0 (Kd.R k106 106 wc w.heap.size (fun _ => True) (.slice Ao18 t541.length co18) t541) ∧ Aside0 (wc.heap[gb534]? = some (.cells #[.int .i64 a0_0, .int .i64 a0_1, .int .i64 a0_2, .int .i64 a0_3, .int .i64 a0_4, (.slice A0_5 l0_5.length c0_5)] 24 (0, 0))) ∧ Aside0 (wc.heap[gb544]? = some (.cells #[.int .i64 t536, .int .i64 t537, .int .i64 t538, .int .i64 t539, .int .i64 t540, (.slice Ao18 t541.length co18)] 28 (0, 0))) ∧ Aside0 (Below w.heap.size w wc))
  case first =>
   have H := HC11.out; clear HC11
   by_cases c25 : t553 = 0
   ·rw [if_pos c25] at H
    have c25b0 : (t553 == 0) = true := beq_iff_eq.mpr c25; have c25b1 : (t553 != 0) = false := bne_eq_false_iff_eq.mpr c25; clear c25
    (first | rw [c25b0] | (simp only [i64_w, i32_w]; rw [c25b0]) | skip)
    replace H := Option.bind_eq_some_iff.mp H; obtain ⟨t554, A260, H⟩ := H
    (try dsimp only at H)
    have A26 := Aside0.mk A260; clear A260; replace H := Option.bind_eq_some_iff.mp H; obtain ⟨t557, A270, H⟩ := H
    (try dsimp only at H)
    have A27 := Aside0.mk A270; clear A270
    by_cases c28 : (t557.length : Int) > 40
    ·rw [if_pos c28] at H
     have c28b0 : decide (40 < (t557.length : Int)) = true := decide_eq_true c28
     have c28b1 : decide (40 < t557.length) = true := decide_eq_true (by omega)
     clear c28; have H' := Aside0.mk H; clear H; have hnb29 := NB544_534.out; have hnc29 := NB534_544.out
     have hcz30 := fun i => blk_cell BK544.out i
     have hfz30 := fun i => blk_frozen BK544.out i
     go_wp2_with (first | (go_at_call 17; (with_reducible refine (steepleref25_Wires.calls k t536 t537 t538 t539 t540 _ _ t541 t554 _ ?side1 ?side2 A26.out).mono ?_); (case side1 => repeat (first | exact (Kd.R_reads' HO543.out).2.2 | (with_reducible refine Kd.C_alloc ?_ _) | (with_reducible refine Kd.C_drewN ?_ _) | (with_reducible refine Kd.C_drew ?_))); (case side2 => exact (Kd.R_reads' HO543.out).2.1); rintro e w31 ⟨v555, rfl, ho0, hb⟩; have n0_ := Aside0.mk (Kd.R_below (raA HO543.out) hb); have n1_ := Aside0.mk (Kd.R_below (raA HO547.out) hb); have n2_ := Aside0.mk (Kd.N_elder' (naA HO551.out) (Kd.R_base ho0) hb); have n3_ := Aside0.mk (Kd.R_lower ho0 (below_size (blA HB.out))); have n4_ := Aside0.mk (blk_below (bkA BK534.out) hb); have n5_ := Aside0.mk (blk_below (bkA BK544.out) hb); have n6_ := Aside0.mk (below_step (blA HB.out) hb); clear HO543; clear HO547; clear HO551; clear BK534; clear BK544; clear HB; have HO543 := n0_; have HO547 := n1_; have HO551 := n2_; have HO556 := n3_; have BK534 := n4_; have BK544 := n5_; have HB := n6_; clear n0_ n1_ n2_ n3_ n4_ n5_ n6_; (try clear hb); (try clear ho0); have hcz32 := fun i => blk_cell BK544.out i; have hfz32 := fun i => blk_frozen BK544.out i; ) | (go_at_call 18; (with_reducible refine (steepleref25_Conds.calls k t536 t537 t538 t539 t540 _ _ t541 t557 _ ?side1 ?side2 A27.out).mono ?_); (case side1 => repeat (first | exact (Kd.R_reads' HO543.out).2.2 | (with_reducible refine Kd.C_alloc ?_ _) | (with_reducible refine Kd.C_drewN ?_ _) | (with_reducible refine Kd.C_drew ?_))); (case side2 => exact (Kd.R_reads' HO543.out).2.1); rintro e w33 ⟨v558, rfl, ho0, hb⟩; have n0_ := Aside0.mk (Kd.R_below (raA HO543.out) hb); have n1_ := Aside0.mk (Kd.R_below (raA HO547.out) hb); have n2_ := Aside0.mk (Kd.N_elder' (naA HO551.out) (Kd.N_base ho0) hb); have n3_ := Aside0.mk (Kd.R_below (raA HO556.out) hb); have n4_ := Aside0.mk (Kd.N_lower (Kd.N_mono (ok' := fun k_ => some k_ ≠ (.slice Ao18 t541.length co18 : Value).ownBlock ∧ some k_ ≠ (v546 : Value).ownBlock ∧ some k_ ≠ (v550 : Value).ownBlock ∧ some k_ ≠ (v555 : Value).ownBlock ∧ k_ ≠ gb534 ∧ k_ ≠ gb544) ho0 (fun k_ hk_ => ⟨(Kd.fresh' (Kd.R_lt (raA HO543.out)) k_ hk_), (Kd.fresh' (Kd.R_lt (raA HO547.out)) k_ hk_), (Kd.fresh' (Kd.N_lt (naA HO551.out)) k_ hk_), (Kd.fresh' (Kd.R_lt (raA HO556.out)) k_ hk_), (Kd.freshB (bkA BK534.out) k_ hk_), (Kd.freshB (bkA BK544.out) k_ hk_)⟩)) (below_size (blA HB.out))); have n5_ := Aside0.mk (blk_below (bkA BK534.out) hb); have n6_ := Aside0.mk (blk_below (bkA BK544.out) hb); have n7_ := Aside0.mk (below_step (blA HB.out) hb); clear HO543; clear HO547; clear HO551; clear HO556; clear BK534; clear BK544; clear HB; have HO543 := n0_; have HO547 := n1_; have HO551 := n2_; have HO556 := n3_; have HO559 := n4_; have BK534 := n5_; have BK544 := n6_; have HB := n7_; clear n0_ n1_ n2_ n3_ n4_ n5_ n6_ n7_; (try clear hb); (try clear ho0); obtain ⟨Ao34, co34, eo34⟩ := Kd.N_slice HO559.out; subst eo34))
     repeat (go_quiet (first | (go_at_call 17; (with_reducible refine (steepleref25_Wires.calls k t536 t537 t538 t539 t540 _ _ t541 t554 _ ?side1 ?side2 A26.out).mono ?_); (case side1 => repeat (first | exact (Kd.R_reads' HO543.out).2.2 | (with_reducible refine Kd.C_alloc ?_ _) | (with_reducible refine Kd.C_drewN ?_ _) | (with_reducible refine Kd.C_drew ?_))); (case side2 => exact (Kd.R_reads' HO543.out).2.1); rintro e w31 ⟨v555, rfl, ho0, hb⟩; have n0_ := Aside0.mk (Kd.R_below (raA HO543.out) hb); have n1_ := Aside0.mk (Kd.R_below (raA HO547.out) hb); have n2_ := Aside0.mk (Kd.N_elder' (naA HO551.out) (Kd.R_base ho0) hb); have n3_ := Aside0.mk (Kd.R_lower ho0 (below_size (blA HB.out))); have n4_ := Aside0.mk (blk_below (bkA BK534.out) hb); have n5_ := Aside0.mk (blk_below (bkA BK544.out) hb); have n6_ := Aside0.mk (below_step (blA HB.out) hb); clear HO543; clear HO547; clear HO551; clear BK534; clear BK544; clear HB; have HO543 := n0_; have HO547 := n1_; have HO551 := n2_; have HO556 := n3_; have BK534 := n4_; have BK544 := n5_; have HB := n6_; clear n0_ n1_ n2_ n3_ n4_ n5_ n6_; (try clear hb); (try clear ho0); have hcz32 := fun i => blk_cell BK544.out i; have hfz32 := fun i => blk_frozen BK544.out i; ) | (go_at_call 18; (with_reducible refine (steepleref25_Conds.calls k t536 t537 t538 t539 t540 _ _ t541 t557 _ ?side1 ?side2 A27.out).mono ?_); (case side1 => repeat (first | exact (Kd.R_reads' HO543.out).2.2 | (with_reducible refine Kd.C_alloc ?_ _) | (with_reducible refine Kd.C_drewN ?_ _) | (with_reducible refine Kd.C_drew ?_))); (case side2 => exact (Kd.R_reads' HO543.out).2.1); rintro e w33 ⟨v558, rfl, ho0, hb⟩; have n0_ := Aside0.mk (Kd.R_below (raA HO543.out) hb); have n1_ := Aside0.mk (Kd.R_below (raA HO547.out) hb); have n2_ := Aside0.mk (Kd.N_elder' (naA HO551.out) (Kd.N_base ho0) hb); have n3_ := Aside0.mk (Kd.R_below (raA HO556.out) hb); have n4_ := Aside0.mk (Kd.N_lower (Kd.N_mono (ok' := fun k_ => some k_ ≠ (.slice Ao18 t541.length co18 : Value).ownBlock ∧ some k_ ≠ (v546 : Value).ownBlock ∧ some k_ ≠ (v550 : Value).ownBlock ∧ some k_ ≠ (v555 : Value).ownBlock ∧ k_ ≠ gb534 ∧ k_ ≠ gb544) ho0 (fun k_ hk_ => ⟨(Kd.fresh' (Kd.R_lt (raA HO543.out)) k_ hk_), (Kd.fresh' (Kd.R_lt (raA HO547.out)) k_ hk_), (Kd.fresh' (Kd.N_lt (naA HO551.out)) k_ hk_), (Kd.fresh' (Kd.R_lt (raA HO556.out)) k_ hk_), (Kd.freshB (bkA BK534.out) k_ hk_), (Kd.freshB (bkA BK544.out) k_ hk_)⟩)) (below_size (blA HB.out))); have n5_ := Aside0.mk (blk_below (bkA BK534.out) hb); have n6_ := Aside0.mk (blk_below (bkA BK544.out) hb); have n7_ := Aside0.mk (below_step (blA HB.out) hb); clear HO543; clear HO547; clear HO551; clear HO556; clear BK534; clear BK544; clear HB; have HO543 := n0_; have HO547 := n1_; have HO551 := n2_; have HO556 := n3_; have HO559 := n4_; have BK534 := n5_; have BK544 := n6_; have HB := n7_; clear n0_ n1_ n2_ n3_ n4_ n5_ n6_ n7_; (try clear hb); (try clear ho0); obtain ⟨Ao34, co34, eo34⟩ := Kd.N_slice HO559.out; subst eo34)); try go_wp2_with (first | (go_at_call 17; (with_reducible refine (steepleref25_Wires.calls k t536 t537 t538 t539 t540 _ _ t541 t554 _ ?side1 ?side2 A26.out).mono ?_); (case side1 => repeat (first | exact (Kd.R_reads' HO543.out).2.2 | (with_reducible refine Kd.C_alloc ?_ _) | (with_reducible refine Kd.C_drewN ?_ _) | (with_reducible refine Kd.C_drew ?_))); (case side2 => exact (Kd.R_reads' HO543.out).2.1); rintro e w31 ⟨v555, rfl, ho0, hb⟩; have n0_ := Aside0.mk (Kd.R_below (raA HO543.out) hb); have n1_ := Aside0.mk (Kd.R_below (raA HO547.out) hb); have n2_ := Aside0.mk (Kd.N_elder' (naA HO551.out) (Kd.R_base ho0) hb); have n3_ := Aside0.mk (Kd.R_lower ho0 (below_size (blA HB.out))); have n4_ := Aside0.mk (blk_below (bkA BK534.out) hb); have n5_ := Aside0.mk (blk_below (bkA BK544.out) hb); have n6_ := Aside0.mk (below_step (blA HB.out) hb); clear HO543; clear HO547; clear HO551; clear BK534; clear BK544; clear HB; have HO543 := n0_; have HO547 := n1_; have HO551 := n2_; have HO556 := n3_; have BK534 := n4_; have BK544 := n5_; have HB := n6_; clear n0_ n1_ n2_ n3_ n4_ n5_ n6_; (try clear hb); (try clear ho0); have hcz32 := fun i => blk_cell BK544.out i; have hfz32 := fun i => blk_frozen BK544.out i; ) | (go_at_call 18; (with_reducible refine (steepleref25_Conds.calls k t536 t537 t538 t539 t540 _ _ t541 t557 _ ?side1 ?side2 A27.out).mono ?_); (case side1 => repeat (first | exact (Kd.R_reads' HO543.out).2.2 | (with_reducible refine Kd.C_alloc ?_ _) | (with_reducible refine Kd.C_drewN ?_ _) | (with_reducible refine Kd.C_drew ?_))); (case side2 => exact (Kd.R_reads' HO543.out).2.1); rintro e w33 ⟨v558, rfl, ho0, hb⟩; have n0_ := Aside0.mk (Kd.R_below (raA HO543.out) hb); have n1_ := Aside0.mk (Kd.R_below (raA HO547.out) hb); have n2_ := Aside0.mk (Kd.N_elder' (naA HO551.out) (Kd.N_base ho0) hb); have n3_ := Aside0.mk (Kd.R_below (raA HO556.out) hb); have n4_ := Aside0.mk (Kd.N_lower (Kd.N_mono (ok' := fun k_ => some k_ ≠ (.slice Ao18 t541.length co18 : Value).ownBlock ∧ some k_ ≠ (v546 : Value).ownBlock ∧ some k_ ≠ (v550 : Value).ownBlock ∧ some k_ ≠ (v555 : Value).ownBlock ∧ k_ ≠ gb534 ∧ k_ ≠ gb544) ho0 (fun k_ hk_ => ⟨(Kd.fresh' (Kd.R_lt (raA HO543.out)) k_ hk_), (Kd.fresh' (Kd.R_lt (raA HO547.out)) k_ hk_), (Kd.fresh' (Kd.N_lt (naA HO551.out)) k_ hk_), (Kd.fresh' (Kd.R_lt (raA HO556.out)) k_ hk_), (Kd.freshB (bkA BK534.out) k_ hk_), (Kd.freshB (bkA BK544.out) k_ hk_)⟩)) (below_size (blA HB.out))); have n5_ := Aside0.mk (blk_below (bkA BK534.out) hb); have n6_ := Aside0.mk (blk_below (bkA BK544.out) hb); have n7_ := Aside0.mk (below_step (blA HB.out) hb); clear HO543; clear HO547; clear HO551; clear HO556; clear BK534; clear BK544; clear HB; have HO543 := n0_; have HO547 := n1_; have HO551 := n2_; have HO556 := n3_; have HO559 := n4_; have BK534 := n5_; have BK544 := n6_; have HB := n7_; clear n0_ n1_ n2_ n3_ n4_ n5_ n6_ n7_; (try clear hb); (try clear ho0); obtain ⟨Ao34, co34, eo34⟩ := Kd.N_slice HO559.out; subst eo34)))
     go_meet
     case rel => exact ⟨_, (2), (t554), (t557), eqA, H', ⟨omA⟩, ⟨raA HO547.out⟩, ⟨by (with_reducible repeat (first | apply Kd.N_alloc | apply Kd.N_drewN | apply Kd.N_drew)); exact Kd.N_mono HO551.out (fun _ hk => ⟨hk.1.1.2.1, ⟨hk.1.2, ⟨hk.2, ⟨hk.1.1.1, ⟨hk.1.1.2.2.1, hk.1.1.2.2.2⟩⟩⟩⟩⟩)⟩, ⟨raA HO556.out⟩, ⟨by (with_reducible repeat (first | apply Kd.N_alloc | apply Kd.N_drewN | apply Kd.N_drew)); exact Kd.N_mono HO559.out (fun _ hk => ⟨hk.2.1, ⟨hk.2.2.1, ⟨hk.2.2.2.1, ⟨hk.1, ⟨hk.2.2.2.2.1, hk.2.2.2.2.2⟩⟩⟩⟩⟩)⟩, ⟨raA HO543.out⟩, ⟨bkA BK534.out⟩, ⟨bkA BK544.out⟩, ⟨blA HB.out⟩⟩
    ·rw [if_neg c28] at H
     have c28b0 : decide (40 < (t557.length : Int)) = false := decide_eq_false c28
     have c28b1 : decide (40 < t557.length) = false := decide_eq_false (by omega)
     clear c28; have H' := Aside0.mk H; clear H; have hnb35 := NB544_534.out; have hnc35 := NB534_544.out
     have hcz36 := fun i => blk_cell BK544.out i
     have hfz36 := fun i => blk_frozen BK544.out i
     go_wp2_with (first | (go_at_call 17; (with_reducible refine (steepleref25_Wires.calls k t536 t537 t538 t539 t540 _ _ t541 t554 _ ?side1 ?side2 A26.out).mono ?_); (case side1 => repeat (first | exact (Kd.R_reads' HO543.out).2.2 | (with_reducible refine Kd.C_alloc ?_ _) | (with_reducible refine Kd.C_drewN ?_ _) | (with_reducible refine Kd.C_drew ?_))); (case side2 => exact (Kd.R_reads' HO543.out).2.1); rintro e w37 ⟨v555, rfl, ho0, hb⟩; have n0_ := Aside0.mk (Kd.R_below (raA HO543.out) hb); have n1_ := Aside0.mk (Kd.R_below (raA HO547.out) hb); have n2_ := Aside0.mk (Kd.N_elder' (naA HO551.out) (Kd.R_base ho0) hb); have n3_ := Aside0.mk (Kd.R_lower ho0 (below_size (blA HB.out))); have n4_ := Aside0.mk (blk_below (bkA BK534.out) hb); have n5_ := Aside0.mk (blk_below (bkA BK544.out) hb); have n6_ := Aside0.mk (below_step (blA HB.out) hb); clear HO543; clear HO547; clear HO551; clear BK534; clear BK544; clear HB; have HO543 := n0_; have HO547 := n1_; have HO551 := n2_; have HO556 := n3_; have BK534 := n4_; have BK544 := n5_; have HB := n6_; clear n0_ n1_ n2_ n3_ n4_ n5_ n6_; (try clear hb); (try clear ho0); have hcz38 := fun i => blk_cell BK544.out i; have hfz38 := fun i => blk_frozen BK544.out i; ) | (go_at_call 18; (with_reducible refine (steepleref25_Conds.calls k t536 t537 t538 t539 t540 _ _ t541 t557 _ ?side1 ?side2 A27.out).mono ?_); (case side1 => repeat (first | exact (Kd.R_reads' HO543.out).2.2 | (with_reducible refine Kd.C_alloc ?_ _) | (with_reducible refine Kd.C_drewN ?_ _) | (with_reducible refine Kd.C_drew ?_))); (case side2 => exact (Kd.R_reads' HO543.out).2.1); rintro e w39 ⟨v558, rfl, ho0, hb⟩; have n0_ := Aside0.mk (Kd.R_below (raA HO543.out) hb); have n1_ := Aside0.mk (Kd.R_below (raA HO547.out) hb); have n2_ := Aside0.mk (Kd.N_elder' (naA HO551.out) (Kd.N_base ho0) hb); have n3_ := Aside0.mk (Kd.R_below (raA HO556.out) hb); have n4_ := Aside0.mk (Kd.N_lower (Kd.N_mono (ok' := fun k_ => some k_ ≠ (.slice Ao18 t541.length co18 : Value).ownBlock ∧ some k_ ≠ (v546 : Value).ownBlock ∧ some k_ ≠ (v550 : Value).ownBlock ∧ some k_ ≠ (v555 : Value).ownBlock ∧ k_ ≠ gb534 ∧ k_ ≠ gb544) ho0 (fun k_ hk_ => ⟨(Kd.fresh' (Kd.R_lt (raA HO543.out)) k_ hk_), (Kd.fresh' (Kd.R_lt (raA HO547.out)) k_ hk_), (Kd.fresh' (Kd.N_lt (naA HO551.out)) k_ hk_), (Kd.fresh' (Kd.R_lt (raA HO556.out)) k_ hk_), (Kd.freshB (bkA BK534.out) k_ hk_), (Kd.freshB (bkA BK544.out) k_ hk_)⟩)) (below_size (blA HB.out))); have n5_ := Aside0.mk (blk_below (bkA BK534.out) hb); have n6_ := Aside0.mk (blk_below (bkA BK544.out) hb); have n7_ := Aside0.mk (below_step (blA HB.out) hb); clear HO543; clear HO547; clear HO551; clear HO556; clear BK534; clear BK544; clear HB; have HO543 := n0_; have HO547 := n1_; have HO551 := n2_; have HO556 := n3_; have HO559 := n4_; have BK534 := n5_; have BK544 := n6_; have HB := n7_; clear n0_ n1_ n2_ n3_ n4_ n5_ n6_ n7_; (try clear hb); (try clear ho0); obtain ⟨Ao40, co40, eo40⟩ := Kd.N_slice HO559.out; subst eo40))
     repeat (go_quiet (first | (go_at_call 17; (with_reducible refine (steepleref25_Wires.calls k t536 t537 t538 t539 t540 _ _ t541 t554 _ ?side1 ?side2 A26.out).mono ?_); (case side1 => repeat (first | exact (Kd.R_reads' HO543.out).2.2 | (with_reducible refine Kd.C_alloc ?_ _) | (with_reducible refine Kd.C_drewN ?_ _) | (with_reducible refine Kd.C_drew ?_))); (case side2 => exact (Kd.R_reads' HO543.out).2.1); rintro e w37 ⟨v555, rfl, ho0, hb⟩; have n0_ := Aside0.mk (Kd.R_below (raA HO543.out) hb); have n1_ := Aside0.mk (Kd.R_below (raA HO547.out) hb); have n2_ := Aside0.mk (Kd.N_elder' (naA HO551.out) (Kd.R_base ho0) hb); have n3_ := Aside0.mk (Kd.R_lower ho0 (below_size (blA HB.out))); have n4_ := Aside0.mk (blk_below (bkA BK534.out) hb); have n5_ := Aside0.mk (blk_below (bkA BK544.out) hb); have n6_ := Aside0.mk (below_step (blA HB.out) hb); clear HO543; clear HO547; clear HO551; clear BK534; clear BK544; clear HB; have HO543 := n0_; have HO547 := n1_; have HO551 := n2_; have HO556 := n3_; have BK534 := n4_; have BK544 := n5_; have HB := n6_; clear n0_ n1_ n2_ n3_ n4_ n5_ n6_; (try clear hb); (try clear ho0); have hcz38 := fun i => blk_cell BK544.out i; have hfz38 := fun i => blk_frozen BK544.out i; ) | (go_at_call 18; (with_reducible refine (steepleref25_Conds.calls k t536 t537 t538 t539 t540 _ _ t541 t557 _ ?side1 ?side2 A27.out).mono ?_); (case side1 => repeat (first | exact (Kd.R_reads' HO543.out).2.2 | (with_reducible refine Kd.C_alloc ?_ _) | (with_reducible refine Kd.C_drewN ?_ _) | (with_reducible refine Kd.C_drew ?_))); (case side2 => exact (Kd.R_reads' HO543.out).2.1); rintro e w39 ⟨v558, rfl, ho0, hb⟩; have n0_ := Aside0.mk (Kd.R_below (raA HO543.out) hb); have n1_ := Aside0.mk (Kd.R_below (raA HO547.out) hb); have n2_ := Aside0.mk (Kd.N_elder' (naA HO551.out) (Kd.N_base ho0) hb); have n3_ := Aside0.mk (Kd.R_below (raA HO556.out) hb); have n4_ := Aside0.mk (Kd.N_lower (Kd.N_mono (ok' := fun k_ => some k_ ≠ (.slice Ao18 t541.length co18 : Value).ownBlock ∧ some k_ ≠ (v546 : Value).ownBlock ∧ some k_ ≠ (v550 : Value).ownBlock ∧ some k_ ≠ (v555 : Value).ownBlock ∧ k_ ≠ gb534 ∧ k_ ≠ gb544) ho0 (fun k_ hk_ => ⟨(Kd.fresh' (Kd.R_lt (raA HO543.out)) k_ hk_), (Kd.fresh' (Kd.R_lt (raA HO547.out)) k_ hk_), (Kd.fresh' (Kd.N_lt (naA HO551.out)) k_ hk_), (Kd.fresh' (Kd.R_lt (raA HO556.out)) k_ hk_), (Kd.freshB (bkA BK534.out) k_ hk_), (Kd.freshB (bkA BK544.out) k_ hk_)⟩)) (below_size (blA HB.out))); have n5_ := Aside0.mk (blk_below (bkA BK534.out) hb); have n6_ := Aside0.mk (blk_below (bkA BK544.out) hb); have n7_ := Aside0.mk (below_step (blA HB.out) hb); clear HO543; clear HO547; clear HO551; clear HO556; clear BK534; clear BK544; clear HB; have HO543 := n0_; have HO547 := n1_; have HO551 := n2_; have HO556 := n3_; have HO559 := n4_; have BK534 := n5_; have BK544 := n6_; have HB := n7_; clear n0_ n1_ n2_ n3_ n4_ n5_ n6_ n7_; (try clear hb); (try clear ho0); obtain ⟨Ao40, co40, eo40⟩ := Kd.N_slice HO559.out; subst eo40)); try go_wp2_with (first | (go_at_call 17; (with_reducible refine (steepleref25_Wires.calls k t536 t537 t538 t539 t540 _ _ t541 t554 _ ?side1 ?side2 A26.out).mono ?_); (case side1 => repeat (first | exact (Kd.R_reads' HO543.out).2.2 | (with_reducible refine Kd.C_alloc ?_ _) | (with_reducible refine Kd.C_drewN ?_ _) | (with_reducible refine Kd.C_drew ?_))); (case side2 => exact (Kd.R_reads' HO543.out).2.1); rintro e w37 ⟨v555, rfl, ho0, hb⟩; have n0_ := Aside0.mk (Kd.R_below (raA HO543.out) hb); have n1_ := Aside0.mk (Kd.R_below (raA HO547.out) hb); have n2_ := Aside0.mk (Kd.N_elder' (naA HO551.out) (Kd.R_base ho0) hb); have n3_ := Aside0.mk (Kd.R_lower ho0 (below_size (blA HB.out))); have n4_ := Aside0.mk (blk_below (bkA BK534.out) hb); have n5_ := Aside0.mk (blk_below (bkA BK544.out) hb); have n6_ := Aside0.mk (below_step (blA HB.out) hb); clear HO543; clear HO547; clear HO551; clear BK534; clear BK544; clear HB; have HO543 := n0_; have HO547 := n1_; have HO551 := n2_; have HO556 := n3_; have BK534 := n4_; have BK544 := n5_; have HB := n6_; clear n0_ n1_ n2_ n3_ n4_ n5_ n6_; (try clear hb); (try clear ho0); have hcz38 := fun i => blk_cell BK544.out i; have hfz38 := fun i => blk_frozen BK544.out i; ) | (go_at_call 18; (with_reducible refine (steepleref25_Conds.calls k t536 t537 t538 t539 t540 _ _ t541 t557 _ ?side1 ?side2 A27.out).mono ?_); (case side1 => repeat (first | exact (Kd.R_reads' HO543.out).2.2 | (with_reducible refine Kd.C_alloc ?_ _) | (with_reducible refine Kd.C_drewN ?_ _) | (with_reducible refine Kd.C_drew ?_))); (case side2 => exact (Kd.R_reads' HO543.out).2.1); rintro e w39 ⟨v558, rfl, ho0, hb⟩; have n0_ := Aside0.mk (Kd.R_below (raA HO543.out) hb); have n1_ := Aside0.mk (Kd.R_below (raA HO547.out) hb); have n2_ := Aside0.mk (Kd.N_elder' (naA HO551.out) (Kd.N_base ho0) hb); have n3_ := Aside0.mk (Kd.R_below (raA HO556.out) hb); have n4_ := Aside0.mk (Kd.N_lower (Kd.N_mono (ok' := fun k_ => some k_ ≠ (.slice Ao18 t541.length co18 : Value).ownBlock ∧ some k_ ≠ (v546 : Value).ownBlock ∧ some k_ ≠ (v550 : Value).ownBlock ∧ some k_ ≠ (v555 : Value).ownBlock ∧ k_ ≠ gb534 ∧ k_ ≠ gb544) ho0 (fun k_ hk_ => ⟨(Kd.fresh' (Kd.R_lt (raA HO543.out)) k_ hk_), (Kd.fresh' (Kd.R_lt (raA HO547.out)) k_ hk_), (Kd.fresh' (Kd.N_lt (naA HO551.out)) k_ hk_), (Kd.fresh' (Kd.R_lt (raA HO556.out)) k_ hk_), (Kd.freshB (bkA BK534.out) k_ hk_), (Kd.freshB (bkA BK544.out) k_ hk_)⟩)) (below_size (blA HB.out))); have n5_ := Aside0.mk (blk_below (bkA BK534.out) hb); have n6_ := Aside0.mk (blk_below (bkA BK544.out) hb); have n7_ := Aside0.mk (below_step (blA HB.out) hb); clear HO543; clear HO547; clear HO551; clear HO556; clear BK534; clear BK544; clear HB; have HO543 := n0_; have HO547 := n1_; have HO551 := n2_; have HO556 := n3_; have HO559 := n4_; have BK534 := n5_; have BK544 := n6_; have HB := n7_; clear n0_ n1_ n2_ n3_ n4_ n5_ n6_ n7_; (try clear hb); (try clear ho0); obtain ⟨Ao40, co40, eo40⟩ := Kd.N_slice HO559.out; subst eo40)))
     go_meet
     case rel => exact ⟨_, (t553), (t554), (t557), eqA, H', ⟨omA⟩, ⟨raA HO547.out⟩, ⟨by (with_reducible repeat (first | apply Kd.N_alloc | apply Kd.N_drewN | apply Kd.N_drew)); exact Kd.N_mono HO551.out (fun _ hk => ⟨hk.1.1.2.1, ⟨hk.1.2, ⟨hk.2, ⟨hk.1.1.1, ⟨hk.1.1.2.2.1, hk.1.1.2.2.2⟩⟩⟩⟩⟩)⟩, ⟨raA HO556.out⟩, ⟨by (with_reducible repeat (first | apply Kd.N_alloc | apply Kd.N_drewN | apply Kd.N_drew)); exact Kd.N_mono HO559.out (fun _ hk => ⟨hk.2.1, ⟨hk.2.2.1, ⟨hk.2.2.2.1, ⟨hk.1, ⟨hk.2.2.2.2.1, hk.2.2.2.2.2⟩⟩⟩⟩⟩)⟩, ⟨raA HO543.out⟩, ⟨bkA BK534.out⟩, ⟨bkA BK544.out⟩, ⟨blA HB.out⟩⟩
   ·rw [if_neg c25] at H
    have c25b0 : (t553 == 0) = false := beq_eq_false_iff_ne.mpr c25; have c25b1 : (t553 != 0) = true := bne_iff_ne.mpr c25
    (first | rw [c25b0] | (simp only [i64_w, i32_w]; rw [c25b0]) | skip)
    have H' := Aside0.mk H; clear H
    go_wp2
    repeat (go_quiet (fail); try go_wp2)
    go_meet
    case rel => exact ⟨_, (t553), (([] : List (S47))), (([] : List (List (S52)))), eqA, H', ⟨omA⟩, ⟨raA HO547.out⟩, ⟨by (with_reducible repeat (first | apply Kd.N_alloc | apply Kd.N_drewN | apply Kd.N_drew)); exact Kd.N_mono HO551.out (fun _ hk => ⟨hk.2.1, ⟨(by simp [Value.ownBlock]), ⟨(by simp [Value.ownBlock]), ⟨hk.1, ⟨hk.2.2.1, hk.2.2.2⟩⟩⟩⟩⟩)⟩, ⟨by first | exact Kd.R_nil _ _ _ _ _ | exact Kd.N_nil _ _ _ _ _ | exact Kd.V_nil _ _ _ _ _ | exact Kd.Q_nil _ _ _ _ _ | exact Kd.S_nil _ _ _ _ _⟩, ⟨by first | exact Kd.S_nil _ _ _ _ _ | exact Kd.N_nil _ _ _ _ _ | exact Kd.V_nil _ _ _ _ _ | exact Kd.Q_nil _ _ _ _ _ | exact Kd.R_nil _ _ _ _ _⟩, ⟨raA HO543.out⟩, ⟨bkA BK534.out⟩, ⟨bkA BK544.out⟩, ⟨blA HB.out⟩⟩
  case rest =>
   clear HC11; (try clear c1); (try clear c2); (try clear c2b0); (try clear c2b1); (try clear p2); (try clear c3); (try clear c16); (try clear c25); (try clear c25b0); (try clear c25b1); (try clear c28); (try clear c28b0); (try clear c28b1); (try clear c29); (try clear c35); (try clear hcz13); (try clear hcz17); (try clear hcz19); (try clear hcz21); (try clear hcz23); (try clear hcz30); (try clear hcz32); (try clear hcz36); (try clear hcz38); (try clear hcz5); (try clear hfz13); (try clear hfz17); (try clear hfz19); (try clear hfz21); (try clear hfz23); (try clear hfz30); (try clear hfz32); (try clear hfz36); (try clear hfz38); (try clear hfz5); obtain ⟨kq, x8_10, x9_10, x10_10, rfl, HA, HJ10, HO_4, HO_6, HO_9, HO_10, HO_545005, BK534, BK544, HB⟩ := hcut
   cases kq with
   | zero => exact absurd HA.out (by simp [steeplelaw25_CircuitLays.j0])
   | succ kj10 =>
    have H := HA.out; clear HA
    simp only [steeplelaw25_CircuitLays.j0] at H
    have HC41 := Aside0.mk H; clear H
    go_upto_region 14 with (fail)
    repeat (go_quiet (fail); go_upto_region 14 with (fail))
    go_cut [51] (fun v51 wc => ∃ (kq : Nat) (x51_40 : Bool), v51 = .bool x51_40 ∧ Aside0 (steeplelaw25_CircuitLays.j1 kq t545 t549 x8_10 x9_10 x10_10 x51_40 = some r) ∧ Aside0 (kq ≤ kj10) ∧ Aside0 (Kd.R k76 76 wc w.heap.size (fun _ => True) v546 t545) ∧ Aside0 (Kd.N (Kd.slice 118 k118) 50 wc w.heap.size (fun k_ => some k_ ≠ (v546 : Value).ownBlock ∧ some k_ ≠ (u9 : Value).ownBlock ∧ some k_ ≠ (u10 : Value).ownBlock ∧ some k_ ≠ ((.slice Ao18 t541.length co18) : Value).ownBlock ∧ k_ ≠ gb534 ∧ k_ ≠ gb544) v550 t549) ∧ Aside0 (Kd.R k47 47 wc w.heap.size (fun _ => True) u9 x9_10) ∧ Aside0 (Kd.N (Kd.slice 52 k52) 48 wc w.heap.size (fun k_ => some k_ ≠ (v546 : Value).ownBlock ∧ some k_ ≠ (v550 : Value).ownBlock ∧ some k_ ≠ (u9 : Value).ownBlock ∧ some k_ ≠ ((.slice Ao18 t541.length co18) : Value).ownBlock ∧ k_ ≠ gb534 ∧ k_ ≠ gb544) u10 x10_10) ∧ Aside0 (Kd.R k106 106 wc w.heap.size (fun _ => True) (.slice Ao18 t541.length co18) t541) ∧ Aside0 (wc.heap[gb534]? = some (.cells #[.int .i64 a0_0, .int .i64 a0_1, .int .i64 a0_2, .int .i64 a0_3, .int .i64 a0_4, (.slice A0_5 l0_5.length c0_5)] 24 (0, 0))) ∧ Aside0 (wc.heap[gb544]? = some (.cells #[.int .i64 t536, .int .i64 t537, .int .i64 t538, .int .i64 t539, .int .i64 t540, (.slice Ao18 t541.length co18)] 28 (0, 0))) ∧ Aside0 (Below w.heap.size w wc))
    case first =>
     have H := HC41.out; clear HC41
     by_cases c42 : t548 = x8_10
     ·rw [if_pos c42] at H
      have c42b0 : (t548 == x8_10) = true := beq_iff_eq.mpr c42; have c42b1 : (t548 != x8_10) = false := bne_eq_false_iff_eq.mpr c42; clear c42
      (first | rw [c42b0] | (simp only [i64_w, i32_w]; rw [c42b0]) | skip)
      have H' := Aside0.mk H; clear H
      go_wp2
      repeat (go_quiet (fail); try go_wp2)
      go_meet
      case rel => exact ⟨_, ((t552 != x8_10)), eqA, H', ⟨by have := HJ10.out; first | omega | exact Nat.le_refl _⟩, ⟨raA HO_4.out⟩, ⟨naA HO_6.out⟩, ⟨raA HO_9.out⟩, ⟨naA HO_10.out⟩, ⟨raA HO_545005.out⟩, ⟨bkA BK534.out⟩, ⟨bkA BK544.out⟩, ⟨blA HB.out⟩⟩
     ·rw [if_neg c42] at H
      have c42b0 : (t548 == x8_10) = false := beq_eq_false_iff_ne.mpr c42; have c42b1 : (t548 != x8_10) = true := bne_iff_ne.mpr c42
      (first | rw [c42b0] | (simp only [i64_w, i32_w]; rw [c42b0]) | skip)
      have H' := Aside0.mk H; clear H
      go_wp2
      repeat (go_quiet (fail); try go_wp2)
      go_meet
      case rel => exact ⟨_, (true), eqA, H', ⟨by have := HJ10.out; first | omega | exact Nat.le_refl _⟩, ⟨raA HO_4.out⟩, ⟨naA HO_6.out⟩, ⟨raA HO_9.out⟩, ⟨naA HO_10.out⟩, ⟨raA HO_545005.out⟩, ⟨bkA BK534.out⟩, ⟨bkA BK544.out⟩, ⟨blA HB.out⟩⟩
    case rest =>
     clear HC41; (try clear c1); (try clear c2); (try clear c2b0); (try clear c2b1); (try clear p2); (try clear c3); (try clear c4); (try clear c16); (try clear c25); (try clear c25b0); (try clear c25b1); (try clear c28); (try clear c28b0); (try clear c28b1); (try clear c29); (try clear c35); (try clear c42); (try clear c42b0); (try clear c42b1); (try clear hcz13); (try clear hcz17); (try clear hcz19); (try clear hcz21); (try clear hcz23); (try clear hcz30); (try clear hcz32); (try clear hcz36); (try clear hcz38); (try clear hcz5); (try clear hfz13); (try clear hfz17); (try clear hfz19); (try clear hfz21); (try clear hfz23); (try clear hfz30); (try clear hfz32); (try clear hfz36); (try clear hfz38); (try clear hfz5); (try clear p2); obtain ⟨kq, x51_40, rfl, HA, HJ40, HO_4, HO_6, HO_9, HO_10, HO_545005, BK534, BK544, HB⟩ := hcut
     cases kq with
     | zero => exact absurd HA.out (by simp [steeplelaw25_CircuitLays.j1])
     | succ kj40 =>
      have H := HA.out; clear HA
      simp only [steeplelaw25_CircuitLays.j1] at H
      by_cases c43 : x51_40 = true
      ·subst c43
       have H1 : (some false) = some r := by rw [if_pos rfl] at H; exact H
       clear H; have H := H1; clear H1; obtain rfl := Option.some.inj H
       go_wp2
       repeat (go_quiet (fail); try go_wp2)
       go_ret
       exact ⟨by first | rfl | (simp [errW_none, errW_some] <;> rfl) | (simp [*, errW_none, errW_some] <;> rfl), blA HB.out⟩
      ·replace c43 := Bool.eq_false_iff.mpr c43; subst c43
       have H1 : (if x8_10 = 0 then ((steeplelaw22_Ref.f kj40 t545).bind fun t561 => (if (t561.length : Int) = (x9_10.length : Int) then (steeplelaw25_CircuitLays.j2 kj40 t549 x9_10 x10_10 t561 ((t549.length : Int) != (x10_10.length : Int))) else (steeplelaw25_CircuitLays.j2 kj40 t549 x9_10 x10_10 t561 true))) else ((steeplelaw25_awake.f kj40).bind fun t560 => (if t560 = true then (some ((wrap64 ((t545.length : Int) + (t549.length : Int))) == 0)) else (some false)))) = some r := by rw [if_neg (show ¬ (false = true) by decide)] at H; exact H
       clear H; have H := H1; clear H1
       by_cases c44 : x8_10 = 0
       ·rw [if_pos c44] at H
        have c44b0 : (x8_10 == 0) = true := beq_iff_eq.mpr c44; have c44b1 : (x8_10 != 0) = false := bne_eq_false_iff_eq.mpr c44; clear c44; replace H := Option.bind_eq_some_iff.mp H; obtain ⟨t561, A450, H⟩ := H
        (try dsimp only at H)
        have A45 := Aside0.mk A450; clear A450; have HC46 := Aside0.mk H; clear H; obtain ⟨Ao47, co47, eo47⟩ := Kd.R_slice HO_4.out; subst eo47
        go_upto_region 19 with (first | (go_at_call 19; (with_reducible refine (steeplelaw22_Ref.calls kj40 _ _ t545 t561 _ ?side1 ?side2 A45.out).mono ?_); (case side1 => repeat (first | exact (Kd.R_reads' HO_4.out).2.2 | (with_reducible refine Kd.C_alloc ?_ _) | (with_reducible refine Kd.C_drewN ?_ _) | (with_reducible refine Kd.C_drew ?_))); (case side2 => exact (Kd.R_reads' HO_4.out).2.1); rintro e w48 ⟨v562, rfl, ho0, hb⟩; have n0_ := Aside0.mk (Kd.R_below (raA HO_4.out) hb); have n1_ := Aside0.mk (Kd.N_elder' (naA HO_6.out) (Kd.R_base ho0) hb); have n2_ := Aside0.mk (Kd.R_elder' (raA HO_9.out) (Kd.R_base ho0) hb); have n3_ := Aside0.mk (Kd.N_elder' (naA HO_10.out) (Kd.R_base ho0) hb); have n4_ := Aside0.mk (Kd.R_below (raA HO_545005.out) hb); have n5_ := Aside0.mk (Kd.R_lower (Kd.R_new' ho0 (Kd.R_lt (raA HO_9.out))) (below_size (blA HB.out))); have n6_ := Aside0.mk (blk_below (bkA BK534.out) hb); have n7_ := Aside0.mk (blk_below (bkA BK544.out) hb); have n8_ := Aside0.mk (below_step (blA HB.out) hb); clear HO_4; clear HO_6; clear HO_9; clear HO_10; clear HO_545005; clear BK534; clear BK544; clear HB; have HO_4 := n0_; have HO_6 := n1_; have HO_9 := n2_; have HO_10 := n3_; have HO_545005 := n4_; have HO563 := n5_; have BK534 := n6_; have BK544 := n7_; have HB := n8_; clear n0_ n1_ n2_ n3_ n4_ n5_ n6_ n7_ n8_; (try clear hb); (try clear ho0)))
        repeat (go_quiet (first | (go_at_call 19; (with_reducible refine (steeplelaw22_Ref.calls kj40 _ _ t545 t561 _ ?side1 ?side2 A45.out).mono ?_); (case side1 => repeat (first | exact (Kd.R_reads' HO_4.out).2.2 | (with_reducible refine Kd.C_alloc ?_ _) | (with_reducible refine Kd.C_drewN ?_ _) | (with_reducible refine Kd.C_drew ?_))); (case side2 => exact (Kd.R_reads' HO_4.out).2.1); rintro e w48 ⟨v562, rfl, ho0, hb⟩; have n0_ := Aside0.mk (Kd.R_below (raA HO_4.out) hb); have n1_ := Aside0.mk (Kd.N_elder' (naA HO_6.out) (Kd.R_base ho0) hb); have n2_ := Aside0.mk (Kd.R_elder' (raA HO_9.out) (Kd.R_base ho0) hb); have n3_ := Aside0.mk (Kd.N_elder' (naA HO_10.out) (Kd.R_base ho0) hb); have n4_ := Aside0.mk (Kd.R_below (raA HO_545005.out) hb); have n5_ := Aside0.mk (Kd.R_lower (Kd.R_new' ho0 (Kd.R_lt (raA HO_9.out))) (below_size (blA HB.out))); have n6_ := Aside0.mk (blk_below (bkA BK534.out) hb); have n7_ := Aside0.mk (blk_below (bkA BK544.out) hb); have n8_ := Aside0.mk (below_step (blA HB.out) hb); clear HO_4; clear HO_6; clear HO_9; clear HO_10; clear HO_545005; clear BK534; clear BK544; clear HB; have HO_4 := n0_; have HO_6 := n1_; have HO_9 := n2_; have HO_10 := n3_; have HO_545005 := n4_; have HO563 := n5_; have BK534 := n6_; have BK544 := n7_; have HB := n8_; clear n0_ n1_ n2_ n3_ n4_ n5_ n6_ n7_ n8_; (try clear hb); (try clear ho0))); go_upto_region 19 with (first | (go_at_call 19; (with_reducible refine (steeplelaw22_Ref.calls kj40 _ _ t545 t561 _ ?side1 ?side2 A45.out).mono ?_); (case side1 => repeat (first | exact (Kd.R_reads' HO_4.out).2.2 | (with_reducible refine Kd.C_alloc ?_ _) | (with_reducible refine Kd.C_drewN ?_ _) | (with_reducible refine Kd.C_drew ?_))); (case side2 => exact (Kd.R_reads' HO_4.out).2.1); rintro e w48 ⟨v562, rfl, ho0, hb⟩; have n0_ := Aside0.mk (Kd.R_below (raA HO_4.out) hb); have n1_ := Aside0.mk (Kd.N_elder' (naA HO_6.out) (Kd.R_base ho0) hb); have n2_ := Aside0.mk (Kd.R_elder' (raA HO_9.out) (Kd.R_base ho0) hb); have n3_ := Aside0.mk (Kd.N_elder' (naA HO_10.out) (Kd.R_base ho0) hb); have n4_ := Aside0.mk (Kd.R_below (raA HO_545005.out) hb); have n5_ := Aside0.mk (Kd.R_lower (Kd.R_new' ho0 (Kd.R_lt (raA HO_9.out))) (below_size (blA HB.out))); have n6_ := Aside0.mk (blk_below (bkA BK534.out) hb); have n7_ := Aside0.mk (blk_below (bkA BK544.out) hb); have n8_ := Aside0.mk (below_step (blA HB.out) hb); clear HO_4; clear HO_6; clear HO_9; clear HO_10; clear HO_545005; clear BK534; clear BK544; clear HB; have HO_4 := n0_; have HO_6 := n1_; have HO_9 := n2_; have HO_10 := n3_; have HO_545005 := n4_; have HO563 := n5_; have BK534 := n6_; have BK544 := n7_; have HB := n8_; clear n0_ n1_ n2_ n3_ n4_ n5_ n6_ n7_ n8_; (try clear hb); (try clear ho0))))
        (try simp only [Act.put, List.setIfInBounds_toArray, List.set_cons_zero, List.set_cons_succ])
        go_cut [76] (fun v76 wc => ∃ (kq : Nat) (x76_45 : Bool), v76 = .bool x76_45 ∧ Aside0 (steeplelaw25_CircuitLays.j2 kq t549 x9_10 x10_10 t561 x76_45 = some r) ∧ Aside0 (kq ≤ kj40) ∧ Aside0 (Kd.N (Kd.slice 118 k118) 50 wc w.heap.size (fun k_ => some k_ ≠ (u9 : Value).ownBlock ∧ some k_ ≠ (u10 : Value).ownBlock ∧ some k_ ≠ (v562 : Value).ownBlock ∧ some k_ ≠ ((.slice Ao18 t541.length co18) : Value).ownBlock ∧ k_ ≠ gb534 ∧ k_ ≠ gb544) v550 t549) ∧ Aside0 (Kd.R k47 47 wc w.heap.size (fun k_ => some k_ ≠ (v562 : Value).ownBlock) u9 x9_10) ∧ Aside0 (Kd.N (Kd.slice 52 k52) 48 wc w.heap.size (fun k_ => some k_ ≠ (v550 : Value).ownBlock ∧ some k_ ≠ (u9 : Value).ownBlock ∧ some k_ ≠ (v562 : Value).ownBlock ∧ some k_ ≠ ((.slice Ao18 t541.length co18) : Value).ownBlock ∧ k_ ≠ gb534 ∧ k_ ≠ gb544) u10 x10_10) ∧ Aside0 (Kd.R k47 47 wc w.heap.size (fun k_ => some k_ ≠ (u9 : Value).ownBlock) v562 t561) ∧ Aside0 (Kd.R k106 106 wc w.heap.size (fun _ => True) (.slice Ao18 t541.length co18) t541) ∧ Aside0 (wc.heap[gb534]? = some (.cells #[.int .i64 a0_0, .int .i64 a0_1, .int .i64 a0_2, .int .i64 a0_3, .int .i64 a0_4, (.slice A0_5 l0_5.length c0_5)] 24 (0, 0))) ∧ Aside0 (wc.heap[gb544]? = some (.cells #[.int .i64 t536, .int .i64 t537, .int .i64 t538, .int .i64 t539, .int .i64 t540, (.slice Ao18 t541.length co18)] 28 (0, 0))) ∧ Aside0 (Below w.heap.size w wc))
        case first =>
         have H := HC46.out; clear HC46
         by_cases c49 : (t561.length : Int) = (x9_10.length : Int)
         ·rw [if_pos c49] at H
          have c49b0 : ((t561.length : Int) == (x9_10.length : Int)) = true := beq_iff_eq.mpr c49; have c49b1 : ((t561.length : Int) != (x9_10.length : Int)) = false := bne_eq_false_iff_eq.mpr c49
          have c49b2 : (t561.length == x9_10.length) = true := by first | simpa using c49 | (simp at c49 ⊢; omega)
          clear c49
          (first | rw [c49b0] | (simp only [i64_w, i32_w]; rw [c49b0]) | skip)
          have H' := Aside0.mk H; clear H; obtain ⟨Ao50, co50, eo50⟩ := Kd.R_slice HO563.out; subst eo50; obtain ⟨Ao51, co51, eo51⟩ := Kd.R_slice HO_9.out; subst eo51; obtain ⟨Ao52, co52, eo52⟩ := Kd.N_slice HO_6.out; subst eo52; obtain ⟨Ao53, co53, eo53⟩ := Kd.N_slice HO_10.out; subst eo53
          go_wp2
          repeat (go_quiet (fail); try go_wp2)
          go_meet
          case rel => exact ⟨_, (((t549.length : Int) != (x10_10.length : Int))), eqA, H', ⟨by have := HJ10.out; have := HJ40.out; first | omega | exact Nat.le_refl _⟩, ⟨by (with_reducible repeat (first | apply Kd.N_alloc | apply Kd.N_drewN | apply Kd.N_drew)); exact Kd.N_mono HO_6.out (fun _ hk => ⟨hk.1.2.1, ⟨hk.1.2.2.1, ⟨hk.2, ⟨hk.1.2.2.2.1, ⟨hk.1.2.2.2.2.1, hk.1.2.2.2.2.2⟩⟩⟩⟩⟩)⟩, ⟨by (with_reducible repeat (first | apply Kd.R_alloc | apply Kd.R_drewN | apply Kd.R_drew)); exact Kd.R_mono HO_9.out (fun _ hk => hk.2)⟩, ⟨by (with_reducible repeat (first | apply Kd.N_alloc | apply Kd.N_drewN | apply Kd.N_drew)); exact Kd.N_mono HO_10.out (fun _ hk => ⟨hk.1.2.1, ⟨hk.1.2.2.1, ⟨hk.2, ⟨hk.1.2.2.2.1, ⟨hk.1.2.2.2.2.1, hk.1.2.2.2.2.2⟩⟩⟩⟩⟩)⟩, ⟨by (with_reducible repeat (first | apply Kd.R_alloc | apply Kd.R_drewN | apply Kd.R_drew)); exact Kd.R_mono HO563.out (fun _ hk => hk.2)⟩, ⟨raA HO_545005.out⟩, ⟨bkA BK534.out⟩, ⟨bkA BK544.out⟩, ⟨blA HB.out⟩⟩
         ·rw [if_neg c49] at H
          have c49b0 : ((t561.length : Int) == (x9_10.length : Int)) = false := beq_eq_false_iff_ne.mpr c49; have c49b1 : ((t561.length : Int) != (x9_10.length : Int)) = true := bne_iff_ne.mpr c49
          have c49b2 : (t561.length == x9_10.length) = false := by first | simpa using c49 | (simp at c49 ⊢; omega)
          (first | rw [c49b0] | (simp only [i64_w, i32_w]; rw [c49b0]) | skip)
          have H' := Aside0.mk H; clear H; obtain ⟨Ao54, co54, eo54⟩ := Kd.R_slice HO563.out; subst eo54; obtain ⟨Ao55, co55, eo55⟩ := Kd.R_slice HO_9.out; subst eo55
          go_wp2
          repeat (go_quiet (fail); try go_wp2)
          go_meet
          case rel => exact ⟨_, (true), eqA, H', ⟨by have := HJ10.out; have := HJ40.out; first | omega | exact Nat.le_refl _⟩, ⟨by (with_reducible repeat (first | apply Kd.N_alloc | apply Kd.N_drewN | apply Kd.N_drew)); exact Kd.N_mono HO_6.out (fun _ hk => ⟨hk.1.2.1, ⟨hk.1.2.2.1, ⟨hk.2, ⟨hk.1.2.2.2.1, ⟨hk.1.2.2.2.2.1, hk.1.2.2.2.2.2⟩⟩⟩⟩⟩)⟩, ⟨by (with_reducible repeat (first | apply Kd.R_alloc | apply Kd.R_drewN | apply Kd.R_drew)); exact Kd.R_mono HO_9.out (fun _ hk => hk.2)⟩, ⟨by (with_reducible repeat (first | apply Kd.N_alloc | apply Kd.N_drewN | apply Kd.N_drew)); exact Kd.N_mono HO_10.out (fun _ hk => ⟨hk.1.2.1, ⟨hk.1.2.2.1, ⟨hk.2, ⟨hk.1.2.2.2.1, ⟨hk.1.2.2.2.2.1, hk.1.2.2.2.2.2⟩⟩⟩⟩⟩)⟩, ⟨by (with_reducible repeat (first | apply Kd.R_alloc | apply Kd.R_drewN | apply Kd.R_drew)); exact Kd.R_mono HO563.out (fun _ hk => hk.2)⟩, ⟨raA HO_545005.out⟩, ⟨bkA BK534.out⟩, ⟨bkA BK544.out⟩, ⟨blA HB.out⟩⟩
        case rest =>
         clear HC46; (try clear c1); (try clear c2); (try clear c2b0); (try clear c2b1); (try clear p2); (try clear c3); (try clear c4); (try clear p6); (try clear c16); (try clear c25); (try clear c25b0); (try clear c25b1); (try clear c28); (try clear c28b0); (try clear c28b1); (try clear c29); (try clear c35); (try clear c42); (try clear c42b0); (try clear c42b1); (try clear c43); (try clear c44); (try clear c44b0); (try clear c44b1); (try clear c49); (try clear c49b0); (try clear c49b1); (try clear c49b2); (try clear hcz13); (try clear hcz17); (try clear hcz19); (try clear hcz21); (try clear hcz23); (try clear hcz30); (try clear hcz32); (try clear hcz36); (try clear hcz38); (try clear hcz5); (try clear hfz13); (try clear hfz17); (try clear hfz19); (try clear hfz21); (try clear hfz23); (try clear hfz30); (try clear hfz32); (try clear hfz36); (try clear hfz38); (try clear hfz5); (try clear p2); obtain ⟨kq, x76_45, rfl, HA, HJ45, HO_6, HO_9, HO_10, HO_11, HO_545005, BK534, BK544, HB⟩ := hcut
         cases kq with
         | zero => exact absurd HA.out (by simp [steeplelaw25_CircuitLays.j2])
         | succ kj45 =>
          have H := HA.out; clear HA
          simp only [steeplelaw25_CircuitLays.j2] at H
          by_cases c56 : x76_45 = true
          ·subst c56
           have H1 : (some false) = some r := by rw [if_pos rfl] at H; exact H
           clear H; have H := H1; clear H1; obtain rfl := Option.some.inj H
           go_wp2
           repeat (go_quiet (fail); try go_wp2)
           go_ret
           exact ⟨by first | rfl | (simp [errW_none, errW_some] <;> rfl) | (simp [*, errW_none, errW_some] <;> rfl), blA HB.out⟩
          ·replace c56 := Bool.eq_false_iff.mpr c56; subst c56
           have H1 : (steeplelaw25_CircuitLays.l0 kj45 t549 x9_10 x10_10 t561 0) = some r := by rw [if_neg (show ¬ (false = true) by decide)] at H; exact H
           clear H; have H := H1; clear H1; have H' := Aside0.mk H; clear H
           go_wp2
           repeat (go_quiet (fail); try go_wp2)
           go_loopg [12] kj45 (fun kq v12 w' => ∃ (x12_4 : Int), v12 = .int .i64 x12_4 ∧ Aside0 (steeplelaw25_CircuitLays.l0 kq t549 x9_10 x10_10 t561 x12_4 = some r) ∧ Aside0 (kq ≤ kj45) ∧ Aside0 (Kd.N (Kd.slice 118 k118) 50 w' w.heap.size (fun k_ => some k_ ≠ (u9 : Value).ownBlock ∧ some k_ ≠ (u10 : Value).ownBlock ∧ some k_ ≠ (v562 : Value).ownBlock ∧ some k_ ≠ ((.slice Ao18 t541.length co18) : Value).ownBlock ∧ k_ ≠ gb534 ∧ k_ ≠ gb544) v550 t549) ∧ Aside0 (Kd.R k47 47 w' w.heap.size (fun k_ => some k_ ≠ (v562 : Value).ownBlock) u9 x9_10) ∧ Aside0 (Kd.N (Kd.slice 52 k52) 48 w' w.heap.size (fun k_ => some k_ ≠ (v550 : Value).ownBlock ∧ some k_ ≠ (u9 : Value).ownBlock ∧ some k_ ≠ (v562 : Value).ownBlock ∧ some k_ ≠ ((.slice Ao18 t541.length co18) : Value).ownBlock ∧ k_ ≠ gb534 ∧ k_ ≠ gb544) u10 x10_10) ∧ Aside0 (Kd.R k47 47 w' w.heap.size (fun k_ => some k_ ≠ (u9 : Value).ownBlock) v562 t561) ∧ Aside0 (Kd.R k106 106 w' w.heap.size (fun _ => True) (.slice Ao18 t541.length co18) t541) ∧ Aside0 (w'.heap[gb534]? = some (.cells #[.int .i64 a0_0, .int .i64 a0_1, .int .i64 a0_2, .int .i64 a0_3, .int .i64 a0_4, (.slice A0_5 l0_5.length c0_5)] 24 (0, 0))) ∧ Aside0 (w'.heap[gb544]? = some (.cells #[.int .i64 t536, .int .i64 t537, .int .i64 t538, .int .i64 t539, .int .i64 t540, (.slice Ao18 t541.length co18)] 28 (0, 0))) ∧ Aside0 (Below w.heap.size w w'))
           case atStart => exact ⟨(0), eqA, H', ⟨Nat.le_refl _⟩, ⟨naA HO_6.out⟩, ⟨raA HO_9.out⟩, ⟨naA HO_10.out⟩, ⟨raA HO_11.out⟩, ⟨raA HO_545005.out⟩, ⟨bkA BK534.out⟩, ⟨bkA BK544.out⟩, ⟨blA HB.out⟩⟩
           case round =>
            clear H'; (try clear c1); (try clear c2); (try clear c2b0); (try clear c2b1); (try clear p2); (try clear c3); (try clear c4); (try clear c5); (try clear p6); (try clear c16); (try clear c25); (try clear c25b0); (try clear c25b1); (try clear c28); (try clear c28b0); (try clear c28b1); (try clear c29); (try clear c35); (try clear c42); (try clear c42b0); (try clear c42b1); (try clear c43); (try clear c44); (try clear c44b0); (try clear c44b1); (try clear c49); (try clear c49b0); (try clear c49b1); (try clear c49b2); (try clear c56); (try clear hcz13); (try clear hcz17); (try clear hcz19); (try clear hcz21); (try clear hcz23); (try clear hcz30); (try clear hcz32); (try clear hcz36); (try clear hcz38); (try clear hcz5); (try clear hfz13); (try clear hfz17); (try clear hfz19); (try clear hfz21); (try clear hfz23); (try clear hfz30); (try clear hfz32); (try clear hfz36); (try clear hfz38); (try clear hfz5); (try clear p2); (try clear p6); obtain ⟨x12_4, rfl, HA, HK4, HO_6, HO_9, HO_10, HO_11, HO_545005, BK534, BK544, HB⟩ := hrel
            cases gk with
            | zero => exact absurd HA.out (by simp [steeplelaw25_CircuitLays.l0])
            | succ k4 =>
             have H := HA.out; clear HA
             simp only [steeplelaw25_CircuitLays.l0] at H
             by_cases c57 : x12_4 < (t561.length : Int)
             ·rw [if_pos c57] at H
              have c57b0 : decide (x12_4 < (t561.length : Int)) = true := decide_eq_true c57; clear c57
              by_cases c58 : 0 ≤ x12_4
              ·rw [if_pos c58] at H
               have c58b0 : decide (0 ≤ x12_4) = true := decide_eq_true c58; clear c58
               by_cases c59 : x12_4 < (x9_10.length : Int)
               ·rw [if_pos c59] at H
                have c59b0 : decide (x12_4 < (x9_10.length : Int)) = true := decide_eq_true c59; clear c59
                by_cases c60 : (!(((rd_T47 t561 x12_4).f0) == ((rd_T47 x9_10 x12_4).f0)) || (!(((rd_T47 t561 x12_4).f1) == ((rd_T47 x9_10 x12_4).f1)) || (!(((rd_T47 t561 x12_4).f2) == ((rd_T47 x9_10 x12_4).f2)) || ((!(((rd_T47 t561 x12_4).f3.f0) == ((rd_T47 x9_10 x12_4).f3.f0)) || (!(((rd_T47 t561 x12_4).f3.f1) == ((rd_T47 x9_10 x12_4).f3.f1)))))))) = true
                ·rw [if_pos c60] at H
                 have c60b0 : (!(((rd_T47 t561 x12_4).f0) == ((rd_T47 x9_10 x12_4).f0)) || (!(((rd_T47 t561 x12_4).f1) == ((rd_T47 x9_10 x12_4).f1)) || (!(((rd_T47 t561 x12_4).f2) == ((rd_T47 x9_10 x12_4).f2)) || ((!(((rd_T47 t561 x12_4).f3.f0) == ((rd_T47 x9_10 x12_4).f3.f0)) || (!(((rd_T47 t561 x12_4).f3.f1) == ((rd_T47 x9_10 x12_4).f3.f1)))))))) = true := c60
                 clear c60; obtain rfl := Option.some.inj H; obtain ⟨Ao61, co61, eo61⟩ := Kd.R_slice HO_11.out; subst eo61
                 have p564 : 0 ≤ (x12_4 : Int) := of_decide_eq_true (by first | (with_reducible assumption) | assumption)
                 have q564 : x12_4 < (t561.length : Int) := of_decide_eq_true (by first | (with_reducible assumption) | assumption)
                 obtain ⟨ad564, e564, hx564_0, hx564_1, hx564_2, hx564_3, hx564_4⟩ := at_T47 (Kd.R_reads' HO_11.out).2.2 x12_4 p564 q564
                 cases e564
                 replace p564 := eq_true p564; replace q564 := eq_true q564; obtain ⟨Ao62, co62, eo62⟩ := Kd.R_slice HO_9.out; subst eo62
                 have p565 : 0 ≤ (x12_4 : Int) := of_decide_eq_true (by first | (with_reducible assumption) | assumption)
                 have q565 : x12_4 < (x9_10.length : Int) := of_decide_eq_true (by first | (with_reducible assumption) | assumption)
                 obtain ⟨ad565, e565, hx565_0, hx565_1, hx565_2, hx565_3, hx565_4⟩ := at_T47 (Kd.R_reads' HO_9.out).2.2 x12_4 p565 q565
                 cases e565
                 replace p565 := eq_true p565; replace q565 := eq_true q565
                 go_wp2
                 repeat (go_quiet (fail); try go_wp2)
                 go_ret
                 exact ⟨by first | rfl | (simp [errW_none, errW_some] <;> rfl) | (simp [*, errW_none, errW_some] <;> rfl), blA HB.out⟩
                ·rw [if_neg c60] at H
                 have c60b0 : (!(((rd_T47 t561 x12_4).f0) == ((rd_T47 x9_10 x12_4).f0)) || (!(((rd_T47 t561 x12_4).f1) == ((rd_T47 x9_10 x12_4).f1)) || (!(((rd_T47 t561 x12_4).f2) == ((rd_T47 x9_10 x12_4).f2)) || ((!(((rd_T47 t561 x12_4).f3.f0) == ((rd_T47 x9_10 x12_4).f3.f0)) || (!(((rd_T47 t561 x12_4).f3.f1) == ((rd_T47 x9_10 x12_4).f3.f1)))))))) = false := by simpa using c60
                 clear c60; have H' := Aside0.mk H; clear H; obtain ⟨Ao63, co63, eo63⟩ := Kd.R_slice HO_11.out; subst eo63
                 have p564 : 0 ≤ (x12_4 : Int) := of_decide_eq_true (by first | (with_reducible assumption) | assumption)
                 have q564 : x12_4 < (t561.length : Int) := of_decide_eq_true (by first | (with_reducible assumption) | assumption)
                 obtain ⟨ad564, e564, hx564_0, hx564_1, hx564_2, hx564_3, hx564_4⟩ := at_T47 (Kd.R_reads' HO_11.out).2.2 x12_4 p564 q564
                 cases e564
                 replace p564 := eq_true p564; replace q564 := eq_true q564; obtain ⟨Ao64, co64, eo64⟩ := Kd.R_slice HO_9.out; subst eo64
                 have p565 : 0 ≤ (x12_4 : Int) := of_decide_eq_true (by first | (with_reducible assumption) | assumption)
                 have q565 : x12_4 < (x9_10.length : Int) := of_decide_eq_true (by first | (with_reducible assumption) | assumption)
                 obtain ⟨ad565, e565, hx565_0, hx565_1, hx565_2, hx565_3, hx565_4⟩ := at_T47 (Kd.R_reads' HO_9.out).2.2 x12_4 p565 q565
                 cases e565
                 replace p565 := eq_true p565; replace q565 := eq_true q565
                 go_wp2
                 repeat (go_quiet (fail); try go_wp2)
                 go_roundg k4
                 case measure => have := HJ10.out; have := HJ40.out; have := HJ45.out; have := HK4.out; omega
                 case rel => exact ⟨(wrap64 (x12_4 + 1)), eqA, H', ⟨by have := HJ10.out; have := HJ40.out; have := HJ45.out; have := HK4.out; omega⟩, ⟨naA HO_6.out⟩, ⟨raA HO_9.out⟩, ⟨naA HO_10.out⟩, ⟨raA HO_11.out⟩, ⟨raA HO_545005.out⟩, ⟨bkA BK534.out⟩, ⟨bkA BK544.out⟩, ⟨blA HB.out⟩⟩
               ·rw [if_neg c59] at H
                exact absurd H (by simp)
              ·rw [if_neg c58] at H
               exact absurd H (by simp)
             ·rw [if_neg c57] at H
              have c57b0 : decide (x12_4 < (t561.length : Int)) = false := decide_eq_false c57; clear c57; have H' := Aside0.mk H; clear H; obtain ⟨Ao65, co65, eo65⟩ := Kd.R_slice HO_11.out; subst eo65
              go_wp2
              repeat (go_quiet (fail); try go_wp2)
              go_loopg [13] k4 (fun kq v13 w' => ∃ (x13_5 : Int), v13 = .int .i64 x13_5 ∧ Aside0 (steeplelaw25_CircuitLays.l1 kq t549 x10_10 x13_5 = some r) ∧ Aside0 (kq ≤ k4) ∧ Aside0 (Kd.N (Kd.slice 118 k118) 50 w' w.heap.size (fun k_ => some k_ ≠ (u10 : Value).ownBlock ∧ some k_ ≠ ((.slice Ao18 t541.length co18) : Value).ownBlock ∧ k_ ≠ gb534 ∧ k_ ≠ gb544) v550 t549) ∧ Aside0 (Kd.N (Kd.slice 52 k52) 48 w' w.heap.size (fun k_ => some k_ ≠ (v550 : Value).ownBlock ∧ some k_ ≠ ((.slice Ao18 t541.length co18) : Value).ownBlock ∧ k_ ≠ gb534 ∧ k_ ≠ gb544) u10 x10_10) ∧ Aside0 (Kd.R k106 106 w' w.heap.size (fun _ => True) (.slice Ao18 t541.length co18) t541) ∧ Aside0 (w'.heap[gb534]? = some (.cells #[.int .i64 a0_0, .int .i64 a0_1, .int .i64 a0_2, .int .i64 a0_3, .int .i64 a0_4, (.slice A0_5 l0_5.length c0_5)] 24 (0, 0))) ∧ Aside0 (w'.heap[gb544]? = some (.cells #[.int .i64 t536, .int .i64 t537, .int .i64 t538, .int .i64 t539, .int .i64 t540, (.slice Ao18 t541.length co18)] 28 (0, 0))) ∧ Aside0 (Below w.heap.size w w'))
              case atStart => exact ⟨(0), eqA, H', ⟨Nat.le_refl _⟩, ⟨by (with_reducible repeat (first | apply Kd.N_alloc | apply Kd.N_drewN | apply Kd.N_drew)); exact Kd.N_mono HO_6.out (fun _ hk => ⟨hk.2.1, ⟨hk.2.2.2.1, ⟨hk.2.2.2.2.1, hk.2.2.2.2.2⟩⟩⟩)⟩, ⟨by (with_reducible repeat (first | apply Kd.N_alloc | apply Kd.N_drewN | apply Kd.N_drew)); exact Kd.N_mono HO_10.out (fun _ hk => ⟨hk.1, ⟨hk.2.2.2.1, ⟨hk.2.2.2.2.1, hk.2.2.2.2.2⟩⟩⟩)⟩, ⟨raA HO_545005.out⟩, ⟨bkA BK534.out⟩, ⟨bkA BK544.out⟩, ⟨blA HB.out⟩⟩
              case round =>
               clear H'; (try clear c1); (try clear c2); (try clear c2b0); (try clear c2b1); (try clear p2); (try clear c3); (try clear c4); (try clear c5); (try clear p5); (try clear q5); (try clear hx5); (try clear c6); (try clear p6); (try clear c16); (try clear c25); (try clear c25b0); (try clear c25b1); (try clear c28); (try clear c28b0); (try clear c28b1); (try clear c29); (try clear c35); (try clear c42); (try clear c42b0); (try clear c42b1); (try clear c43); (try clear c44); (try clear c44b0); (try clear c44b1); (try clear c49); (try clear c49b0); (try clear c49b1); (try clear c49b2); (try clear c56); (try clear p56); (try clear q56); (try clear hx56); (try clear c57); (try clear c57b0); (try clear c58); (try clear c58b0); (try clear c59); (try clear c59b0); (try clear c60); (try clear c60b0); (try clear p64); (try clear hcz13); (try clear hcz17); (try clear hcz19); (try clear hcz21); (try clear hcz23); (try clear hcz30); (try clear hcz32); (try clear hcz36); (try clear hcz38); (try clear hcz5); (try clear hfz13); (try clear hfz17); (try clear hfz19); (try clear hfz21); (try clear hfz23); (try clear hfz30); (try clear hfz32); (try clear hfz36); (try clear hfz38); (try clear hfz5); (try clear hx564_0); (try clear hx564_1); (try clear hx564_2); (try clear hx564_3); (try clear hx564_4); (try clear hx565_0); (try clear hx565_1); (try clear hx565_2); (try clear hx565_3); (try clear hx565_4); (try clear p2); (try clear p564); (try clear p565); (try clear p6); (try clear q564); (try clear q565); obtain ⟨x13_5, rfl, HA, HK5, HO_6, HO_10, HO_545005, BK534, BK544, HB⟩ := hrel
               cases gk with
               | zero => exact absurd HA.out (by simp [steeplelaw25_CircuitLays.l1])
               | succ k5 =>
                have H := HA.out; clear HA
                simp only [steeplelaw25_CircuitLays.l1] at H
                by_cases c66 : x13_5 < (t549.length : Int)
                ·rw [if_pos c66] at H
                 have c66b0 : decide (x13_5 < (t549.length : Int)) = true := decide_eq_true c66; clear c66
                 by_cases c67 : 0 ≤ x13_5
                 ·rw [if_pos c67] at H
                  have c67b0 : decide (0 ≤ x13_5) = true := decide_eq_true c67; clear c67; replace H := Option.bind_eq_some_iff.mp H; obtain ⟨t568, A680, H⟩ := H
                  (try dsimp only at H)
                  have A68 := Aside0.mk A680; clear A680
                  by_cases c69 : x13_5 < (x10_10.length : Int)
                  ·rw [if_pos c69] at H
                   have c69b0 : decide (x13_5 < (x10_10.length : Int)) = true := decide_eq_true c69; clear c69
                   by_cases c70 : (t568.length : Int) = ((rd_L16 x10_10 x13_5).length : Int)
                   ·rw [if_pos c70] at H
                    have c70b0 : ((t568.length : Int) == ((rd_L16 x10_10 x13_5).length : Int)) = true := beq_iff_eq.mpr c70; have c70b1 : ((t568.length : Int) != ((rd_L16 x10_10 x13_5).length : Int)) = false := bne_eq_false_iff_eq.mpr c70
                    have c70b2 : (t568.length == (rd_L16 x10_10 x13_5).length) = true := by first | simpa using c70 | (simp at c70 ⊢; omega)
                    clear c70; have H' := Aside0.mk H; clear H; obtain ⟨Ao71, co71, eo71⟩ := Kd.N_slice HO_6.out; subst eo71
                    have p567 : 0 ≤ (x13_5 : Int) := of_decide_eq_true (by first | (with_reducible assumption) | assumption)
                    have q567 : x13_5 < (t549.length : Int) := of_decide_eq_true (by first | (with_reducible assumption) | assumption)
                    obtain ⟨ad567, A567_0, c567_0, e567, hx567_0, hl567_0, hi567_0⟩ := at_L9 (Kd.N_reads' HO_6.out).2.2 x13_5 p567 q567
                    cases e567
                    obtain ⟨ce567, hce567, hMe567, hcc567⟩ := Kd.N_get HO_6.out [] x13_5 p567 (by first | exact q567 | exact of_decide_eq_true (by first | (with_reducible assumption) | assumption) | (have e_ := (Kd.N_reads' HO_6.out).1; omega))
                    obtain ⟨ua567_0, uc567_0, rfl, ul567_0, ge567_0⟩ := Kd.FK_slice_open hMe567; have hv567_0 := hcc567 0 _ rfl
                    rw [Nat.add_zero, show ((Kd.slice 118 k118)).sz = 1 from rfl, Nat.mul_one] at hv567_0
                    replace hv567_0 := Option.some.inj (hv567_0.symm.trans hx567_0)
                    injection hv567_0 with hva_ hvn_ hvc_
                    rw [hva_] at ge567_0
                    rw [hvc_] at ul567_0
                    have HL567_0 := Aside0.mk (show Kd.V k118 118 _ w.heap.size _ _ (rd_L9 t549 x13_5) from Kd.V_mk ul567_0 ge567_0)
                    clear hva_ hvn_ hvc_ ge567_0 ul567_0; clear hcc567 hce567; have HR567_0 := Aside0.mk hi567_0; have HC567_0 := Aside0.mk hl567_0; clear hi567_0 hl567_0; replace p567 := eq_true p567; replace q567 := eq_true q567
                    go_wp2_with (first | (go_at_call 20; (with_reducible refine (steeplelaw16_Ref.calls k5 _ _ (rd_L9 t549 x13_5) t568 _ ?side1 ?side2 A68.out).mono ?_); (case side1 => repeat (first | exact (by repeat (first | (with_reducible exact HR567_0.out) | (with_reducible refine Kd.C_alloc ?_ _) | (with_reducible refine Kd.C_drewN ?_ _) | (with_reducible refine Kd.C_drew ?_) | exact HR567_0.out)) | (with_reducible refine Kd.C_alloc ?_ _) | (with_reducible refine Kd.C_drewN ?_ _) | (with_reducible refine Kd.C_drew ?_))); (case side2 => exact HC567_0.out); rintro e w72 ⟨v569, rfl, ho0, hb⟩; have n0_ := Aside0.mk (Kd.N_elder' (naA HO_6.out) (Kd.R_base ho0) hb); have n1_ := Aside0.mk (Kd.N_elder' (naA HO_10.out) (Kd.R_base ho0) hb); have n2_ := Aside0.mk (Kd.R_below (raA HO_545005.out) hb); have n3_ := Aside0.mk (Kd.V_elder' (by (with_reducible repeat (first | apply Kd.V_alloc | apply Kd.V_drewN | apply Kd.V_drew)); exact HL567_0.out) (Kd.R_base ho0) hb); have n4_ := Aside0.mk (Kd.R_lower ho0 (below_size (blA HB.out))); have n5_ := Aside0.mk (blk_below (bkA BK534.out) hb); have n6_ := Aside0.mk (blk_below (bkA BK544.out) hb); have n7_ := Aside0.mk (Kd.C_below (by repeat (first | (with_reducible exact HR567_0.out) | (with_reducible refine Kd.C_alloc ?_ _) | (with_reducible refine Kd.C_drewN ?_ _) | (with_reducible refine Kd.C_drew ?_) | exact HR567_0.out)) hb); have n8_ := Aside0.mk (below_step (blA HB.out) hb); clear HO_6; clear HO_10; clear HO_545005; clear HL567_0; clear BK534; clear BK544; clear HR567_0; clear HB; have HO_6 := n0_; have HO_10 := n1_; have HO_545005 := n2_; have HL567_0 := n3_; have HO570 := n4_; have BK534 := n5_; have BK544 := n6_; have HR567_0 := n7_; have HB := n8_; clear n0_ n1_ n2_ n3_ n4_ n5_ n6_ n7_ n8_; (try clear hb); (try clear ho0); obtain ⟨Ao73, co73, eo73⟩ := Kd.R_slice HO570.out; subst eo73; obtain ⟨Ao74, co74, eo74⟩ := Kd.N_slice HO_10.out; subst eo74; have p571 : 0 ≤ (x13_5 : Int) := of_decide_eq_true (by first | (with_reducible assumption) | assumption); have q571 : x13_5 < (x10_10.length : Int) := of_decide_eq_true (by first | (with_reducible assumption) | assumption); obtain ⟨ad571, A571_0, c571_0, e571, hx571_0, hl571_0, hi571_0⟩ := at_L16 (Kd.N_reads' HO_10.out).2.2 x13_5 p571 q571; cases e571; obtain ⟨ce571, hce571, hMe571, hcc571⟩ := Kd.N_get HO_10.out [] x13_5 p571 (by first | exact q571 | exact of_decide_eq_true (by first | (with_reducible assumption) | assumption) | (have e_ := (Kd.N_reads' HO_10.out).1; omega)); obtain ⟨ua571_0, uc571_0, rfl, ul571_0, ge571_0⟩ := Kd.FK_slice_open hMe571; have hv571_0 := hcc571 0 _ rfl; rw [Nat.add_zero, show ((Kd.slice 52 k52)).sz = 1 from rfl, Nat.mul_one] at hv571_0; replace hv571_0 := Option.some.inj (hv571_0.symm.trans hx571_0); injection hv571_0 with hva_ hvn_ hvc_; rw [hva_] at ge571_0; rw [hvc_] at ul571_0; have HL571_0 := Aside0.mk (show Kd.V k52 52 _ w.heap.size _ _ (rd_L16 x10_10 x13_5) from Kd.V_mk ul571_0 ge571_0); clear hva_ hvn_ hvc_ ge571_0 ul571_0; clear hcc571 hce571; have HR571_0 := Aside0.mk hi571_0; have HC571_0 := Aside0.mk hl571_0; clear hi571_0 hl571_0; replace p571 := eq_true p571; replace q571 := eq_true q571))
                    repeat (go_quiet (first | (go_at_call 20; (with_reducible refine (steeplelaw16_Ref.calls k5 _ _ (rd_L9 t549 x13_5) t568 _ ?side1 ?side2 A68.out).mono ?_); (case side1 => repeat (first | exact (by repeat (first | (with_reducible exact HR567_0.out) | (with_reducible refine Kd.C_alloc ?_ _) | (with_reducible refine Kd.C_drewN ?_ _) | (with_reducible refine Kd.C_drew ?_) | exact HR567_0.out)) | (with_reducible refine Kd.C_alloc ?_ _) | (with_reducible refine Kd.C_drewN ?_ _) | (with_reducible refine Kd.C_drew ?_))); (case side2 => exact HC567_0.out); rintro e w72 ⟨v569, rfl, ho0, hb⟩; have n0_ := Aside0.mk (Kd.N_elder' (naA HO_6.out) (Kd.R_base ho0) hb); have n1_ := Aside0.mk (Kd.N_elder' (naA HO_10.out) (Kd.R_base ho0) hb); have n2_ := Aside0.mk (Kd.R_below (raA HO_545005.out) hb); have n3_ := Aside0.mk (Kd.V_elder' (by (with_reducible repeat (first | apply Kd.V_alloc | apply Kd.V_drewN | apply Kd.V_drew)); exact HL567_0.out) (Kd.R_base ho0) hb); have n4_ := Aside0.mk (Kd.R_lower ho0 (below_size (blA HB.out))); have n5_ := Aside0.mk (blk_below (bkA BK534.out) hb); have n6_ := Aside0.mk (blk_below (bkA BK544.out) hb); have n7_ := Aside0.mk (Kd.C_below (by repeat (first | (with_reducible exact HR567_0.out) | (with_reducible refine Kd.C_alloc ?_ _) | (with_reducible refine Kd.C_drewN ?_ _) | (with_reducible refine Kd.C_drew ?_) | exact HR567_0.out)) hb); have n8_ := Aside0.mk (below_step (blA HB.out) hb); clear HO_6; clear HO_10; clear HO_545005; clear HL567_0; clear BK534; clear BK544; clear HR567_0; clear HB; have HO_6 := n0_; have HO_10 := n1_; have HO_545005 := n2_; have HL567_0 := n3_; have HO570 := n4_; have BK534 := n5_; have BK544 := n6_; have HR567_0 := n7_; have HB := n8_; clear n0_ n1_ n2_ n3_ n4_ n5_ n6_ n7_ n8_; (try clear hb); (try clear ho0); obtain ⟨Ao73, co73, eo73⟩ := Kd.R_slice HO570.out; subst eo73; obtain ⟨Ao74, co74, eo74⟩ := Kd.N_slice HO_10.out; subst eo74; have p571 : 0 ≤ (x13_5 : Int) := of_decide_eq_true (by first | (with_reducible assumption) | assumption); have q571 : x13_5 < (x10_10.length : Int) := of_decide_eq_true (by first | (with_reducible assumption) | assumption); obtain ⟨ad571, A571_0, c571_0, e571, hx571_0, hl571_0, hi571_0⟩ := at_L16 (Kd.N_reads' HO_10.out).2.2 x13_5 p571 q571; cases e571; obtain ⟨ce571, hce571, hMe571, hcc571⟩ := Kd.N_get HO_10.out [] x13_5 p571 (by first | exact q571 | exact of_decide_eq_true (by first | (with_reducible assumption) | assumption) | (have e_ := (Kd.N_reads' HO_10.out).1; omega)); obtain ⟨ua571_0, uc571_0, rfl, ul571_0, ge571_0⟩ := Kd.FK_slice_open hMe571; have hv571_0 := hcc571 0 _ rfl; rw [Nat.add_zero, show ((Kd.slice 52 k52)).sz = 1 from rfl, Nat.mul_one] at hv571_0; replace hv571_0 := Option.some.inj (hv571_0.symm.trans hx571_0); injection hv571_0 with hva_ hvn_ hvc_; rw [hva_] at ge571_0; rw [hvc_] at ul571_0; have HL571_0 := Aside0.mk (show Kd.V k52 52 _ w.heap.size _ _ (rd_L16 x10_10 x13_5) from Kd.V_mk ul571_0 ge571_0); clear hva_ hvn_ hvc_ ge571_0 ul571_0; clear hcc571 hce571; have HR571_0 := Aside0.mk hi571_0; have HC571_0 := Aside0.mk hl571_0; clear hi571_0 hl571_0; replace p571 := eq_true p571; replace q571 := eq_true q571)); try go_wp2_with (first | (go_at_call 20; (with_reducible refine (steeplelaw16_Ref.calls k5 _ _ (rd_L9 t549 x13_5) t568 _ ?side1 ?side2 A68.out).mono ?_); (case side1 => repeat (first | exact (by repeat (first | (with_reducible exact HR567_0.out) | (with_reducible refine Kd.C_alloc ?_ _) | (with_reducible refine Kd.C_drewN ?_ _) | (with_reducible refine Kd.C_drew ?_) | exact HR567_0.out)) | (with_reducible refine Kd.C_alloc ?_ _) | (with_reducible refine Kd.C_drewN ?_ _) | (with_reducible refine Kd.C_drew ?_))); (case side2 => exact HC567_0.out); rintro e w72 ⟨v569, rfl, ho0, hb⟩; have n0_ := Aside0.mk (Kd.N_elder' (naA HO_6.out) (Kd.R_base ho0) hb); have n1_ := Aside0.mk (Kd.N_elder' (naA HO_10.out) (Kd.R_base ho0) hb); have n2_ := Aside0.mk (Kd.R_below (raA HO_545005.out) hb); have n3_ := Aside0.mk (Kd.V_elder' (by (with_reducible repeat (first | apply Kd.V_alloc | apply Kd.V_drewN | apply Kd.V_drew)); exact HL567_0.out) (Kd.R_base ho0) hb); have n4_ := Aside0.mk (Kd.R_lower ho0 (below_size (blA HB.out))); have n5_ := Aside0.mk (blk_below (bkA BK534.out) hb); have n6_ := Aside0.mk (blk_below (bkA BK544.out) hb); have n7_ := Aside0.mk (Kd.C_below (by repeat (first | (with_reducible exact HR567_0.out) | (with_reducible refine Kd.C_alloc ?_ _) | (with_reducible refine Kd.C_drewN ?_ _) | (with_reducible refine Kd.C_drew ?_) | exact HR567_0.out)) hb); have n8_ := Aside0.mk (below_step (blA HB.out) hb); clear HO_6; clear HO_10; clear HO_545005; clear HL567_0; clear BK534; clear BK544; clear HR567_0; clear HB; have HO_6 := n0_; have HO_10 := n1_; have HO_545005 := n2_; have HL567_0 := n3_; have HO570 := n4_; have BK534 := n5_; have BK544 := n6_; have HR567_0 := n7_; have HB := n8_; clear n0_ n1_ n2_ n3_ n4_ n5_ n6_ n7_ n8_; (try clear hb); (try clear ho0); obtain ⟨Ao73, co73, eo73⟩ := Kd.R_slice HO570.out; subst eo73; obtain ⟨Ao74, co74, eo74⟩ := Kd.N_slice HO_10.out; subst eo74; have p571 : 0 ≤ (x13_5 : Int) := of_decide_eq_true (by first | (with_reducible assumption) | assumption); have q571 : x13_5 < (x10_10.length : Int) := of_decide_eq_true (by first | (with_reducible assumption) | assumption); obtain ⟨ad571, A571_0, c571_0, e571, hx571_0, hl571_0, hi571_0⟩ := at_L16 (Kd.N_reads' HO_10.out).2.2 x13_5 p571 q571; cases e571; obtain ⟨ce571, hce571, hMe571, hcc571⟩ := Kd.N_get HO_10.out [] x13_5 p571 (by first | exact q571 | exact of_decide_eq_true (by first | (with_reducible assumption) | assumption) | (have e_ := (Kd.N_reads' HO_10.out).1; omega)); obtain ⟨ua571_0, uc571_0, rfl, ul571_0, ge571_0⟩ := Kd.FK_slice_open hMe571; have hv571_0 := hcc571 0 _ rfl; rw [Nat.add_zero, show ((Kd.slice 52 k52)).sz = 1 from rfl, Nat.mul_one] at hv571_0; replace hv571_0 := Option.some.inj (hv571_0.symm.trans hx571_0); injection hv571_0 with hva_ hvn_ hvc_; rw [hva_] at ge571_0; rw [hvc_] at ul571_0; have HL571_0 := Aside0.mk (show Kd.V k52 52 _ w.heap.size _ _ (rd_L16 x10_10 x13_5) from Kd.V_mk ul571_0 ge571_0); clear hva_ hvn_ hvc_ ge571_0 ul571_0; clear hcc571 hce571; have HR571_0 := Aside0.mk hi571_0; have HC571_0 := Aside0.mk hl571_0; clear hi571_0 hl571_0; replace p571 := eq_true p571; replace q571 := eq_true q571)))
                    go_loopg [15] k5 (fun kq v15 w' => ∃ (x15_6 : Int), v15 = .int .i64 x15_6 ∧ Aside0 (steeplelaw25_CircuitLays.l2 kq t549 x10_10 x13_5 t568 x15_6 = some r) ∧ Aside0 (kq ≤ k5) ∧ Aside0 (Kd.N (Kd.slice 118 k118) 50 w' w.heap.size (fun k_ => some k_ ≠ ((.slice (some ad571) x10_10.length co74) : Value).ownBlock ∧ some k_ ≠ ((.slice Ao73 t568.length co73) : Value).ownBlock ∧ some k_ ≠ ((.slice Ao18 t541.length co18) : Value).ownBlock ∧ k_ ≠ gb534 ∧ k_ ≠ gb544) (.slice (some ad567) t549.length co71) t549) ∧ Aside0 (Kd.N (Kd.slice 52 k52) 48 w' w.heap.size (fun k_ => some k_ ≠ ((.slice (some ad567) t549.length co71) : Value).ownBlock ∧ some k_ ≠ ((.slice Ao73 t568.length co73) : Value).ownBlock ∧ some k_ ≠ ((.slice Ao18 t541.length co18) : Value).ownBlock ∧ k_ ≠ gb534 ∧ k_ ≠ gb544) (.slice (some ad571) x10_10.length co74) x10_10) ∧ Aside0 (Kd.R k52 52 w' w.heap.size (fun _ => True) (.slice Ao73 t568.length co73) t568) ∧ Aside0 (Kd.R k106 106 w' w.heap.size (fun _ => True) (.slice Ao18 t541.length co18) t541) ∧ Aside0 (w'.heap[gb534]? = some (.cells #[.int .i64 a0_0, .int .i64 a0_1, .int .i64 a0_2, .int .i64 a0_3, .int .i64 a0_4, (.slice A0_5 l0_5.length c0_5)] 24 (0, 0))) ∧ Aside0 (w'.heap[gb544]? = some (.cells #[.int .i64 t536, .int .i64 t537, .int .i64 t538, .int .i64 t539, .int .i64 t540, (.slice Ao18 t541.length co18)] 28 (0, 0))) ∧ Aside0 (Kd.C k118 w' A567_0 (rd_L9 t549 x13_5).length (rd_L9 t549 x13_5)) ∧ Aside0 (Kd.C k52 w' A571_0 (rd_L16 x10_10 x13_5).length (rd_L16 x10_10 x13_5)) ∧ Aside0 (Below w.heap.size w w'))
                    case atStart => exact ⟨(0), eqA, H', ⟨Nat.le_refl _⟩, ⟨by (with_reducible repeat (first | apply Kd.N_alloc | apply Kd.N_drewN | apply Kd.N_drew)); exact Kd.N_mono HO_6.out (fun _ hk => ⟨hk.1.1, ⟨hk.2, ⟨hk.1.2.1, ⟨hk.1.2.2.1, hk.1.2.2.2⟩⟩⟩⟩)⟩, ⟨by (with_reducible repeat (first | apply Kd.N_alloc | apply Kd.N_drewN | apply Kd.N_drew)); exact Kd.N_mono HO_10.out (fun _ hk => ⟨hk.1.1, ⟨hk.2, ⟨hk.1.2.1, ⟨hk.1.2.2.1, hk.1.2.2.2⟩⟩⟩⟩)⟩, ⟨raA HO570.out⟩, ⟨raA HO_545005.out⟩, ⟨bkA BK534.out⟩, ⟨bkA BK544.out⟩, ⟨by repeat (first | (with_reducible exact HR567_0.out) | (with_reducible refine Kd.C_alloc ?_ _) | (with_reducible refine Kd.C_drewN ?_ _) | (with_reducible refine Kd.C_drew ?_) | exact HR567_0.out)⟩, ⟨by repeat (first | (with_reducible exact HR571_0.out) | (with_reducible refine Kd.C_alloc ?_ _) | (with_reducible refine Kd.C_drewN ?_ _) | (with_reducible refine Kd.C_drew ?_) | exact HR571_0.out)⟩, ⟨blA HB.out⟩⟩
                    case round =>
                     clear H'; (try clear c1); (try clear c2); (try clear c2b0); (try clear c2b1); (try clear p2); (try clear c3); (try clear c4); (try clear c5); (try clear p5); (try clear q5); (try clear hx5); (try clear c6); (try clear p6); (try clear c7); (try clear c16); (try clear c25); (try clear c25b0); (try clear c25b1); (try clear c28); (try clear c28b0); (try clear c28b1); (try clear c29); (try clear c35); (try clear c42); (try clear c42b0); (try clear c42b1); (try clear c43); (try clear c44); (try clear c44b0); (try clear c44b1); (try clear c49); (try clear c49b0); (try clear c49b1); (try clear c49b2); (try clear c56); (try clear p56); (try clear q56); (try clear hx56); (try clear c57); (try clear c57b0); (try clear p57); (try clear q57); (try clear hx57); (try clear c58); (try clear c58b0); (try clear c59); (try clear c59b0); (try clear c60); (try clear c60b0); (try clear p64); (try clear c66); (try clear c66b0); (try clear c67); (try clear c67b0); (try clear c69); (try clear c69b0); (try clear c70); (try clear c70b0); (try clear c70b1); (try clear c70b2); (try clear hcz13); (try clear hcz17); (try clear hcz19); (try clear hcz21); (try clear hcz23); (try clear hcz30); (try clear hcz32); (try clear hcz36); (try clear hcz38); (try clear hcz5); (try clear hfz13); (try clear hfz17); (try clear hfz19); (try clear hfz21); (try clear hfz23); (try clear hfz30); (try clear hfz32); (try clear hfz36); (try clear hfz38); (try clear hfz5); (try clear hx564_0); (try clear hx564_1); (try clear hx564_2); (try clear hx564_3); (try clear hx564_4); (try clear hx565_0); (try clear hx565_1); (try clear hx565_2); (try clear hx565_3); (try clear hx565_4); (try clear hx567_0); (try clear hx571_0); (try clear p2); (try clear p5); (try clear p56); (try clear p564); (try clear p565); (try clear p567); (try clear p571); (try clear p6); (try clear p64); (try clear q5); (try clear q56); (try clear q564); (try clear q565); (try clear q567); (try clear q571); obtain ⟨x15_6, rfl, HA, HK6, HO_6, HO_10, HO_14, HO_545005, BK534, BK544, HR567_0, HR571_0, HB⟩ := hrel
                     cases gk with
                     | zero => exact absurd HA.out (by simp [steeplelaw25_CircuitLays.l2])
                     | succ k6 =>
                      have H := HA.out; clear HA
                      simp only [steeplelaw25_CircuitLays.l2] at H
                      by_cases c75 : x15_6 < (t568.length : Int)
                      ·rw [if_pos c75] at H
                       have c75b0 : decide (x15_6 < (t568.length : Int)) = true := decide_eq_true c75; clear c75
                       by_cases c76 : 0 ≤ x15_6
                       ·rw [if_pos c76] at H
                        have c76b0 : decide (0 ≤ x15_6) = true := decide_eq_true c76; clear c76
                        by_cases c77 : 0 ≤ x13_5
                        ·rw [if_pos c77] at H
                         have c77b0 : decide (0 ≤ x13_5) = true := decide_eq_true c77; clear c77
                         by_cases c78 : x13_5 < (x10_10.length : Int)
                         ·rw [if_pos c78] at H
                          have c78b0 : decide (x13_5 < (x10_10.length : Int)) = true := decide_eq_true c78; clear c78
                          by_cases c79 : x15_6 < ((rd_L16 x10_10 x13_5).length : Int)
                          ·rw [if_pos c79] at H
                           have c79b0 : decide (x15_6 < ((rd_L16 x10_10 x13_5).length : Int)) = true := decide_eq_true c79; clear c79
                           by_cases c80 : (!(((rd_T52 t568 x15_6).f0) == ((rd_T52 (rd_L16 x10_10 x13_5) x15_6).f0)) || (!(((rd_T52 t568 x15_6).f1) == ((rd_T52 (rd_L16 x10_10 x13_5) x15_6).f1)) || (!(((rd_T52 t568 x15_6).f2) == ((rd_T52 (rd_L16 x10_10 x13_5) x15_6).f2)) || ((!(((rd_T52 t568 x15_6).f3.f0) == ((rd_T52 (rd_L16 x10_10 x13_5) x15_6).f3.f0)) || (!(((rd_T52 t568 x15_6).f3.f1) == ((rd_T52 (rd_L16 x10_10 x13_5) x15_6).f3.f1)))))))) = true
                           ·rw [if_pos c80] at H
                            have c80b0 : (!(((rd_T52 t568 x15_6).f0) == ((rd_T52 (rd_L16 x10_10 x13_5) x15_6).f0)) || (!(((rd_T52 t568 x15_6).f1) == ((rd_T52 (rd_L16 x10_10 x13_5) x15_6).f1)) || (!(((rd_T52 t568 x15_6).f2) == ((rd_T52 (rd_L16 x10_10 x13_5) x15_6).f2)) || ((!(((rd_T52 t568 x15_6).f3.f0) == ((rd_T52 (rd_L16 x10_10 x13_5) x15_6).f3.f0)) || (!(((rd_T52 t568 x15_6).f3.f1) == ((rd_T52 (rd_L16 x10_10 x13_5) x15_6).f3.f1)))))))) = true := c80
                            clear c80; obtain rfl := Option.some.inj H
                            have p572 : 0 ≤ (x15_6 : Int) := of_decide_eq_true (by first | (with_reducible assumption) | assumption)
                            have q572 : x15_6 < (t568.length : Int) := of_decide_eq_true (by first | (with_reducible assumption) | assumption)
                            obtain ⟨ad572, e572, hx572_0, hx572_1, hx572_2, hx572_3, hx572_4⟩ := at_T52 (Kd.R_reads' HO_14.out).2.2 x15_6 p572 q572
                            cases e572
                            replace p572 := eq_true p572; replace q572 := eq_true q572
                            have p573 : 0 ≤ (x13_5 : Int) := of_decide_eq_true (by first | (with_reducible assumption) | assumption)
                            have q573 : x13_5 < (x10_10.length : Int) := of_decide_eq_true (by first | (with_reducible assumption) | assumption)
                            obtain ⟨ad573, A573_0, c573_0, e573, hx573_0, hl573_0, hi573_0⟩ := at_L16 (Kd.N_reads' HO_10.out).2.2 x13_5 p573 q573
                            obtain rfl : ad571 = ad573 := (by injection e573)
                            obtain ⟨ce573, hce573, hMe573, hcc573⟩ := Kd.N_get HO_10.out [] x13_5 p573 (by first | exact q573 | exact of_decide_eq_true (by first | (with_reducible assumption) | assumption) | (have e_ := (Kd.N_reads' HO_10.out).1; omega))
                            obtain ⟨ua573_0, uc573_0, rfl, ul573_0, ge573_0⟩ := Kd.FK_slice_open hMe573; have hv573_0 := hcc573 0 _ rfl
                            rw [Nat.add_zero, show ((Kd.slice 52 k52)).sz = 1 from rfl, Nat.mul_one] at hv573_0
                            replace hv573_0 := Option.some.inj (hv573_0.symm.trans hx573_0)
                            injection hv573_0 with hva_ hvn_ hvc_
                            rw [hva_] at ge573_0
                            rw [hvc_] at ul573_0
                            have HL573_0 := Aside0.mk (show Kd.V k52 52 _ w.heap.size _ _ (rd_L16 x10_10 x13_5) from Kd.V_mk ul573_0 ge573_0)
                            clear hva_ hvn_ hvc_ ge573_0 ul573_0; clear hcc573 hce573; have HR573_0 := Aside0.mk hi573_0; have HC573_0 := Aside0.mk hl573_0; clear hi573_0 hl573_0; replace p573 := eq_true p573; replace q573 := eq_true q573
                            have p574 : 0 ≤ (x15_6 : Int) := of_decide_eq_true (by first | (with_reducible assumption) | assumption)
                            have q574 : x15_6 < ((rd_L16 x10_10 x13_5).length : Int) := of_decide_eq_true (by first | (with_reducible assumption) | assumption)
                            obtain ⟨ad574, e574, hx574_0, hx574_1, hx574_2, hx574_3, hx574_4⟩ := at_T52 (by repeat (first | (with_reducible exact HR573_0.out) | (with_reducible refine Kd.C_alloc ?_ _) | (with_reducible refine Kd.C_drewN ?_ _) | (with_reducible refine Kd.C_drew ?_) | exact HR573_0.out)) x15_6 p574 q574
                            cases e574
                            replace p574 := eq_true p574; replace q574 := eq_true q574
                            go_wp2
                            repeat (go_quiet (fail); try go_wp2)
                            go_ret
                            exact ⟨by first | rfl | (simp [errW_none, errW_some] <;> rfl) | (simp [*, errW_none, errW_some] <;> rfl), blA HB.out⟩
                           ·rw [if_neg c80] at H
                            have c80b0 : (!(((rd_T52 t568 x15_6).f0) == ((rd_T52 (rd_L16 x10_10 x13_5) x15_6).f0)) || (!(((rd_T52 t568 x15_6).f1) == ((rd_T52 (rd_L16 x10_10 x13_5) x15_6).f1)) || (!(((rd_T52 t568 x15_6).f2) == ((rd_T52 (rd_L16 x10_10 x13_5) x15_6).f2)) || ((!(((rd_T52 t568 x15_6).f3.f0) == ((rd_T52 (rd_L16 x10_10 x13_5) x15_6).f3.f0)) || (!(((rd_T52 t568 x15_6).f3.f1) == ((rd_T52 (rd_L16 x10_10 x13_5) x15_6).f3.f1)))))))) = false := by simpa using c80
                            clear c80; have H' := Aside0.mk H; clear H
                            have p572 : 0 ≤ (x15_6 : Int) := of_decide_eq_true (by first | (with_reducible assumption) | assumption)
                            have q572 : x15_6 < (t568.length : Int) := of_decide_eq_true (by first | (with_reducible assumption) | assumption)
                            obtain ⟨ad572, e572, hx572_0, hx572_1, hx572_2, hx572_3, hx572_4⟩ := at_T52 (Kd.R_reads' HO_14.out).2.2 x15_6 p572 q572
                            cases e572
                            replace p572 := eq_true p572; replace q572 := eq_true q572
                            have p573 : 0 ≤ (x13_5 : Int) := of_decide_eq_true (by first | (with_reducible assumption) | assumption)
                            have q573 : x13_5 < (x10_10.length : Int) := of_decide_eq_true (by first | (with_reducible assumption) | assumption)
                            obtain ⟨ad573, A573_0, c573_0, e573, hx573_0, hl573_0, hi573_0⟩ := at_L16 (Kd.N_reads' HO_10.out).2.2 x13_5 p573 q573
                            obtain rfl : ad571 = ad573 := (by injection e573)
                            obtain ⟨ce573, hce573, hMe573, hcc573⟩ := Kd.N_get HO_10.out [] x13_5 p573 (by first | exact q573 | exact of_decide_eq_true (by first | (with_reducible assumption) | assumption) | (have e_ := (Kd.N_reads' HO_10.out).1; omega))
                            obtain ⟨ua573_0, uc573_0, rfl, ul573_0, ge573_0⟩ := Kd.FK_slice_open hMe573; have hv573_0 := hcc573 0 _ rfl
                            rw [Nat.add_zero, show ((Kd.slice 52 k52)).sz = 1 from rfl, Nat.mul_one] at hv573_0
                            replace hv573_0 := Option.some.inj (hv573_0.symm.trans hx573_0)
                            injection hv573_0 with hva_ hvn_ hvc_
                            rw [hva_] at ge573_0
                            rw [hvc_] at ul573_0
                            have HL573_0 := Aside0.mk (show Kd.V k52 52 _ w.heap.size _ _ (rd_L16 x10_10 x13_5) from Kd.V_mk ul573_0 ge573_0)
                            clear hva_ hvn_ hvc_ ge573_0 ul573_0; clear hcc573 hce573; have HR573_0 := Aside0.mk hi573_0; have HC573_0 := Aside0.mk hl573_0; clear hi573_0 hl573_0; replace p573 := eq_true p573; replace q573 := eq_true q573
                            have p574 : 0 ≤ (x15_6 : Int) := of_decide_eq_true (by first | (with_reducible assumption) | assumption)
                            have q574 : x15_6 < ((rd_L16 x10_10 x13_5).length : Int) := of_decide_eq_true (by first | (with_reducible assumption) | assumption)
                            obtain ⟨ad574, e574, hx574_0, hx574_1, hx574_2, hx574_3, hx574_4⟩ := at_T52 (by repeat (first | (with_reducible exact HR573_0.out) | (with_reducible refine Kd.C_alloc ?_ _) | (with_reducible refine Kd.C_drewN ?_ _) | (with_reducible refine Kd.C_drew ?_) | exact HR573_0.out)) x15_6 p574 q574
                            cases e574
                            replace p574 := eq_true p574; replace q574 := eq_true q574
                            go_wp2
                            repeat (go_quiet (fail); try go_wp2)
                            go_roundg k6
                            case measure => have := HJ10.out; have := HJ40.out; have := HJ45.out; have := HK4.out; have := HK5.out; have := HK6.out; omega
                            case rel => exact ⟨(wrap64 (x15_6 + 1)), eqA, H', ⟨by have := HJ10.out; have := HJ40.out; have := HJ45.out; have := HK4.out; have := HK5.out; have := HK6.out; omega⟩, ⟨naA HO_6.out⟩, ⟨naA HO_10.out⟩, ⟨raA HO_14.out⟩, ⟨raA HO_545005.out⟩, ⟨bkA BK534.out⟩, ⟨bkA BK544.out⟩, ⟨by repeat (first | (with_reducible exact HR567_0.out) | (with_reducible refine Kd.C_alloc ?_ _) | (with_reducible refine Kd.C_drewN ?_ _) | (with_reducible refine Kd.C_drew ?_) | exact HR567_0.out)⟩, ⟨by repeat (first | (with_reducible exact HR571_0.out) | (with_reducible refine Kd.C_alloc ?_ _) | (with_reducible refine Kd.C_drewN ?_ _) | (with_reducible refine Kd.C_drew ?_) | exact HR571_0.out)⟩, ⟨blA HB.out⟩⟩
                          ·rw [if_neg c79] at H
                           exact absurd H (by simp)
                         ·rw [if_neg c78] at H
                          exact absurd H (by simp)
                        ·rw [if_neg c77] at H
                         exact absurd H (by simp)
                       ·rw [if_neg c76] at H
                        exact absurd H (by simp)
                      ·rw [if_neg c75] at H
                       have c75b0 : decide (x15_6 < (t568.length : Int)) = false := decide_eq_false c75; clear c75; have H' := Aside0.mk H; clear H
                       go_wp2
                       repeat (go_quiet (fail); try go_wp2)
                       go_roundg k6
                       case measure => have := HJ10.out; have := HJ40.out; have := HJ45.out; have := HK4.out; have := HK5.out; have := HK6.out; omega
                       case rel => exact ⟨(wrap64 (x13_5 + 1)), eqA, H', ⟨by have := HJ10.out; have := HJ40.out; have := HJ45.out; have := HK4.out; have := HK5.out; have := HK6.out; omega⟩, ⟨by (with_reducible repeat (first | apply Kd.N_alloc | apply Kd.N_drewN | apply Kd.N_drew)); exact Kd.N_mono HO_6.out (fun _ hk => ⟨hk.1, ⟨hk.2.2.1, ⟨hk.2.2.2.1, hk.2.2.2.2⟩⟩⟩)⟩, ⟨by (with_reducible repeat (first | apply Kd.N_alloc | apply Kd.N_drewN | apply Kd.N_drew)); exact Kd.N_mono HO_10.out (fun _ hk => ⟨hk.1, ⟨hk.2.2.1, ⟨hk.2.2.2.1, hk.2.2.2.2⟩⟩⟩)⟩, ⟨raA HO_545005.out⟩, ⟨bkA BK534.out⟩, ⟨bkA BK544.out⟩, ⟨blA HB.out⟩⟩
                   ·rw [if_neg c70] at H
                    have c70b0 : ((t568.length : Int) == ((rd_L16 x10_10 x13_5).length : Int)) = false := beq_eq_false_iff_ne.mpr c70; have c70b1 : ((t568.length : Int) != ((rd_L16 x10_10 x13_5).length : Int)) = true := bne_iff_ne.mpr c70
                    have c70b2 : (t568.length == (rd_L16 x10_10 x13_5).length) = false := by first | simpa using c70 | (simp at c70 ⊢; omega)
                    obtain rfl := Option.some.inj H; obtain ⟨Ao81, co81, eo81⟩ := Kd.N_slice HO_6.out; subst eo81
                    have p567 : 0 ≤ (x13_5 : Int) := of_decide_eq_true (by first | (with_reducible assumption) | assumption)
                    have q567 : x13_5 < (t549.length : Int) := of_decide_eq_true (by first | (with_reducible assumption) | assumption)
                    obtain ⟨ad567, A567_0, c567_0, e567, hx567_0, hl567_0, hi567_0⟩ := at_L9 (Kd.N_reads' HO_6.out).2.2 x13_5 p567 q567
                    cases e567
                    obtain ⟨ce567, hce567, hMe567, hcc567⟩ := Kd.N_get HO_6.out [] x13_5 p567 (by first | exact q567 | exact of_decide_eq_true (by first | (with_reducible assumption) | assumption) | (have e_ := (Kd.N_reads' HO_6.out).1; omega))
                    obtain ⟨ua567_0, uc567_0, rfl, ul567_0, ge567_0⟩ := Kd.FK_slice_open hMe567; have hv567_0 := hcc567 0 _ rfl
                    rw [Nat.add_zero, show ((Kd.slice 118 k118)).sz = 1 from rfl, Nat.mul_one] at hv567_0
                    replace hv567_0 := Option.some.inj (hv567_0.symm.trans hx567_0)
                    injection hv567_0 with hva_ hvn_ hvc_
                    rw [hva_] at ge567_0
                    rw [hvc_] at ul567_0
                    have HL567_0 := Aside0.mk (show Kd.V k118 118 _ w.heap.size _ _ (rd_L9 t549 x13_5) from Kd.V_mk ul567_0 ge567_0)
                    clear hva_ hvn_ hvc_ ge567_0 ul567_0; clear hcc567 hce567; have HR567_0 := Aside0.mk hi567_0; have HC567_0 := Aside0.mk hl567_0; clear hi567_0 hl567_0; replace p567 := eq_true p567; replace q567 := eq_true q567
                    go_wp2_with (first | (go_at_call 20; (with_reducible refine (steeplelaw16_Ref.calls k5 _ _ (rd_L9 t549 x13_5) t568 _ ?side1 ?side2 A68.out).mono ?_); (case side1 => repeat (first | exact (by repeat (first | (with_reducible exact HR567_0.out) | (with_reducible refine Kd.C_alloc ?_ _) | (with_reducible refine Kd.C_drewN ?_ _) | (with_reducible refine Kd.C_drew ?_) | exact HR567_0.out)) | (with_reducible refine Kd.C_alloc ?_ _) | (with_reducible refine Kd.C_drewN ?_ _) | (with_reducible refine Kd.C_drew ?_))); (case side2 => exact HC567_0.out); rintro e w82 ⟨v569, rfl, ho0, hb⟩; have n0_ := Aside0.mk (Kd.N_elder' (naA HO_6.out) (Kd.R_base ho0) hb); have n1_ := Aside0.mk (Kd.N_elder' (naA HO_10.out) (Kd.R_base ho0) hb); have n2_ := Aside0.mk (Kd.R_below (raA HO_545005.out) hb); have n3_ := Aside0.mk (Kd.V_elder' (by (with_reducible repeat (first | apply Kd.V_alloc | apply Kd.V_drewN | apply Kd.V_drew)); exact HL567_0.out) (Kd.R_base ho0) hb); have n4_ := Aside0.mk (Kd.R_lower ho0 (below_size (blA HB.out))); have n5_ := Aside0.mk (blk_below (bkA BK534.out) hb); have n6_ := Aside0.mk (blk_below (bkA BK544.out) hb); have n7_ := Aside0.mk (Kd.C_below (by repeat (first | (with_reducible exact HR567_0.out) | (with_reducible refine Kd.C_alloc ?_ _) | (with_reducible refine Kd.C_drewN ?_ _) | (with_reducible refine Kd.C_drew ?_) | exact HR567_0.out)) hb); have n8_ := Aside0.mk (below_step (blA HB.out) hb); clear HO_6; clear HO_10; clear HO_545005; clear HL567_0; clear BK534; clear BK544; clear HR567_0; clear HB; have HO_6 := n0_; have HO_10 := n1_; have HO_545005 := n2_; have HL567_0 := n3_; have HO570 := n4_; have BK534 := n5_; have BK544 := n6_; have HR567_0 := n7_; have HB := n8_; clear n0_ n1_ n2_ n3_ n4_ n5_ n6_ n7_ n8_; (try clear hb); (try clear ho0); obtain ⟨Ao83, co83, eo83⟩ := Kd.R_slice HO570.out; subst eo83; obtain ⟨Ao84, co84, eo84⟩ := Kd.N_slice HO_10.out; subst eo84; have p571 : 0 ≤ (x13_5 : Int) := of_decide_eq_true (by first | (with_reducible assumption) | assumption); have q571 : x13_5 < (x10_10.length : Int) := of_decide_eq_true (by first | (with_reducible assumption) | assumption); obtain ⟨ad571, A571_0, c571_0, e571, hx571_0, hl571_0, hi571_0⟩ := at_L16 (Kd.N_reads' HO_10.out).2.2 x13_5 p571 q571; cases e571; obtain ⟨ce571, hce571, hMe571, hcc571⟩ := Kd.N_get HO_10.out [] x13_5 p571 (by first | exact q571 | exact of_decide_eq_true (by first | (with_reducible assumption) | assumption) | (have e_ := (Kd.N_reads' HO_10.out).1; omega)); obtain ⟨ua571_0, uc571_0, rfl, ul571_0, ge571_0⟩ := Kd.FK_slice_open hMe571; have hv571_0 := hcc571 0 _ rfl; rw [Nat.add_zero, show ((Kd.slice 52 k52)).sz = 1 from rfl, Nat.mul_one] at hv571_0; replace hv571_0 := Option.some.inj (hv571_0.symm.trans hx571_0); injection hv571_0 with hva_ hvn_ hvc_; rw [hva_] at ge571_0; rw [hvc_] at ul571_0; have HL571_0 := Aside0.mk (show Kd.V k52 52 _ w.heap.size _ _ (rd_L16 x10_10 x13_5) from Kd.V_mk ul571_0 ge571_0); clear hva_ hvn_ hvc_ ge571_0 ul571_0; clear hcc571 hce571; have HR571_0 := Aside0.mk hi571_0; have HC571_0 := Aside0.mk hl571_0; clear hi571_0 hl571_0; replace p571 := eq_true p571; replace q571 := eq_true q571))
                    repeat (go_quiet (first | (go_at_call 20; (with_reducible refine (steeplelaw16_Ref.calls k5 _ _ (rd_L9 t549 x13_5) t568 _ ?side1 ?side2 A68.out).mono ?_); (case side1 => repeat (first | exact (by repeat (first | (with_reducible exact HR567_0.out) | (with_reducible refine Kd.C_alloc ?_ _) | (with_reducible refine Kd.C_drewN ?_ _) | (with_reducible refine Kd.C_drew ?_) | exact HR567_0.out)) | (with_reducible refine Kd.C_alloc ?_ _) | (with_reducible refine Kd.C_drewN ?_ _) | (with_reducible refine Kd.C_drew ?_))); (case side2 => exact HC567_0.out); rintro e w82 ⟨v569, rfl, ho0, hb⟩; have n0_ := Aside0.mk (Kd.N_elder' (naA HO_6.out) (Kd.R_base ho0) hb); have n1_ := Aside0.mk (Kd.N_elder' (naA HO_10.out) (Kd.R_base ho0) hb); have n2_ := Aside0.mk (Kd.R_below (raA HO_545005.out) hb); have n3_ := Aside0.mk (Kd.V_elder' (by (with_reducible repeat (first | apply Kd.V_alloc | apply Kd.V_drewN | apply Kd.V_drew)); exact HL567_0.out) (Kd.R_base ho0) hb); have n4_ := Aside0.mk (Kd.R_lower ho0 (below_size (blA HB.out))); have n5_ := Aside0.mk (blk_below (bkA BK534.out) hb); have n6_ := Aside0.mk (blk_below (bkA BK544.out) hb); have n7_ := Aside0.mk (Kd.C_below (by repeat (first | (with_reducible exact HR567_0.out) | (with_reducible refine Kd.C_alloc ?_ _) | (with_reducible refine Kd.C_drewN ?_ _) | (with_reducible refine Kd.C_drew ?_) | exact HR567_0.out)) hb); have n8_ := Aside0.mk (below_step (blA HB.out) hb); clear HO_6; clear HO_10; clear HO_545005; clear HL567_0; clear BK534; clear BK544; clear HR567_0; clear HB; have HO_6 := n0_; have HO_10 := n1_; have HO_545005 := n2_; have HL567_0 := n3_; have HO570 := n4_; have BK534 := n5_; have BK544 := n6_; have HR567_0 := n7_; have HB := n8_; clear n0_ n1_ n2_ n3_ n4_ n5_ n6_ n7_ n8_; (try clear hb); (try clear ho0); obtain ⟨Ao83, co83, eo83⟩ := Kd.R_slice HO570.out; subst eo83; obtain ⟨Ao84, co84, eo84⟩ := Kd.N_slice HO_10.out; subst eo84; have p571 : 0 ≤ (x13_5 : Int) := of_decide_eq_true (by first | (with_reducible assumption) | assumption); have q571 : x13_5 < (x10_10.length : Int) := of_decide_eq_true (by first | (with_reducible assumption) | assumption); obtain ⟨ad571, A571_0, c571_0, e571, hx571_0, hl571_0, hi571_0⟩ := at_L16 (Kd.N_reads' HO_10.out).2.2 x13_5 p571 q571; cases e571; obtain ⟨ce571, hce571, hMe571, hcc571⟩ := Kd.N_get HO_10.out [] x13_5 p571 (by first | exact q571 | exact of_decide_eq_true (by first | (with_reducible assumption) | assumption) | (have e_ := (Kd.N_reads' HO_10.out).1; omega)); obtain ⟨ua571_0, uc571_0, rfl, ul571_0, ge571_0⟩ := Kd.FK_slice_open hMe571; have hv571_0 := hcc571 0 _ rfl; rw [Nat.add_zero, show ((Kd.slice 52 k52)).sz = 1 from rfl, Nat.mul_one] at hv571_0; replace hv571_0 := Option.some.inj (hv571_0.symm.trans hx571_0); injection hv571_0 with hva_ hvn_ hvc_; rw [hva_] at ge571_0; rw [hvc_] at ul571_0; have HL571_0 := Aside0.mk (show Kd.V k52 52 _ w.heap.size _ _ (rd_L16 x10_10 x13_5) from Kd.V_mk ul571_0 ge571_0); clear hva_ hvn_ hvc_ ge571_0 ul571_0; clear hcc571 hce571; have HR571_0 := Aside0.mk hi571_0; have HC571_0 := Aside0.mk hl571_0; clear hi571_0 hl571_0; replace p571 := eq_true p571; replace q571 := eq_true q571)); try go_wp2_with (first | (go_at_call 20; (with_reducible refine (steeplelaw16_Ref.calls k5 _ _ (rd_L9 t549 x13_5) t568 _ ?side1 ?side2 A68.out).mono ?_); (case side1 => repeat (first | exact (by repeat (first | (with_reducible exact HR567_0.out) | (with_reducible refine Kd.C_alloc ?_ _) | (with_reducible refine Kd.C_drewN ?_ _) | (with_reducible refine Kd.C_drew ?_) | exact HR567_0.out)) | (with_reducible refine Kd.C_alloc ?_ _) | (with_reducible refine Kd.C_drewN ?_ _) | (with_reducible refine Kd.C_drew ?_))); (case side2 => exact HC567_0.out); rintro e w82 ⟨v569, rfl, ho0, hb⟩; have n0_ := Aside0.mk (Kd.N_elder' (naA HO_6.out) (Kd.R_base ho0) hb); have n1_ := Aside0.mk (Kd.N_elder' (naA HO_10.out) (Kd.R_base ho0) hb); have n2_ := Aside0.mk (Kd.R_below (raA HO_545005.out) hb); have n3_ := Aside0.mk (Kd.V_elder' (by (with_reducible repeat (first | apply Kd.V_alloc | apply Kd.V_drewN | apply Kd.V_drew)); exact HL567_0.out) (Kd.R_base ho0) hb); have n4_ := Aside0.mk (Kd.R_lower ho0 (below_size (blA HB.out))); have n5_ := Aside0.mk (blk_below (bkA BK534.out) hb); have n6_ := Aside0.mk (blk_below (bkA BK544.out) hb); have n7_ := Aside0.mk (Kd.C_below (by repeat (first | (with_reducible exact HR567_0.out) | (with_reducible refine Kd.C_alloc ?_ _) | (with_reducible refine Kd.C_drewN ?_ _) | (with_reducible refine Kd.C_drew ?_) | exact HR567_0.out)) hb); have n8_ := Aside0.mk (below_step (blA HB.out) hb); clear HO_6; clear HO_10; clear HO_545005; clear HL567_0; clear BK534; clear BK544; clear HR567_0; clear HB; have HO_6 := n0_; have HO_10 := n1_; have HO_545005 := n2_; have HL567_0 := n3_; have HO570 := n4_; have BK534 := n5_; have BK544 := n6_; have HR567_0 := n7_; have HB := n8_; clear n0_ n1_ n2_ n3_ n4_ n5_ n6_ n7_ n8_; (try clear hb); (try clear ho0); obtain ⟨Ao83, co83, eo83⟩ := Kd.R_slice HO570.out; subst eo83; obtain ⟨Ao84, co84, eo84⟩ := Kd.N_slice HO_10.out; subst eo84; have p571 : 0 ≤ (x13_5 : Int) := of_decide_eq_true (by first | (with_reducible assumption) | assumption); have q571 : x13_5 < (x10_10.length : Int) := of_decide_eq_true (by first | (with_reducible assumption) | assumption); obtain ⟨ad571, A571_0, c571_0, e571, hx571_0, hl571_0, hi571_0⟩ := at_L16 (Kd.N_reads' HO_10.out).2.2 x13_5 p571 q571; cases e571; obtain ⟨ce571, hce571, hMe571, hcc571⟩ := Kd.N_get HO_10.out [] x13_5 p571 (by first | exact q571 | exact of_decide_eq_true (by first | (with_reducible assumption) | assumption) | (have e_ := (Kd.N_reads' HO_10.out).1; omega)); obtain ⟨ua571_0, uc571_0, rfl, ul571_0, ge571_0⟩ := Kd.FK_slice_open hMe571; have hv571_0 := hcc571 0 _ rfl; rw [Nat.add_zero, show ((Kd.slice 52 k52)).sz = 1 from rfl, Nat.mul_one] at hv571_0; replace hv571_0 := Option.some.inj (hv571_0.symm.trans hx571_0); injection hv571_0 with hva_ hvn_ hvc_; rw [hva_] at ge571_0; rw [hvc_] at ul571_0; have HL571_0 := Aside0.mk (show Kd.V k52 52 _ w.heap.size _ _ (rd_L16 x10_10 x13_5) from Kd.V_mk ul571_0 ge571_0); clear hva_ hvn_ hvc_ ge571_0 ul571_0; clear hcc571 hce571; have HR571_0 := Aside0.mk hi571_0; have HC571_0 := Aside0.mk hl571_0; clear hi571_0 hl571_0; replace p571 := eq_true p571; replace q571 := eq_true q571)))
                    go_ret
                    exact ⟨by first | rfl | (simp [errW_none, errW_some] <;> rfl) | (simp [*, errW_none, errW_some] <;> rfl), blA HB.out⟩
                  ·rw [if_neg c69] at H
                   exact absurd H (by simp)
                 ·rw [if_neg c67] at H
                  exact absurd H (by simp)
                ·rw [if_neg c66] at H
                 have c66b0 : decide (x13_5 < (t549.length : Int)) = false := decide_eq_false c66; clear c66; replace H := Option.bind_eq_some_iff.mp H; obtain ⟨t566, A850, H⟩ := H; replace H : (some t566) = some r := H; have A85 := Aside0.mk A850; clear A850; obtain rfl := Option.some.inj H; obtain ⟨Ao86, co86, eo86⟩ := Kd.N_slice HO_6.out; subst eo86
                 go_wp2_with (first | (go_at_call 12; (with_reducible refine (steeplelaw25_awake.calls k5  t566 _ A85.out).mono ?_); rintro e w87 ⟨rfl, hb⟩; have n0_ := Aside0.mk (Kd.N_below (naA HO_6.out) hb); have n1_ := Aside0.mk (Kd.N_below (naA HO_10.out) hb); have n2_ := Aside0.mk (Kd.R_below (raA HO_545005.out) hb); have n3_ := Aside0.mk (blk_below (bkA BK534.out) hb); have n4_ := Aside0.mk (blk_below (bkA BK544.out) hb); have n5_ := Aside0.mk (below_step (blA HB.out) hb); clear HO_6; clear HO_10; clear HO_545005; clear BK534; clear BK544; clear HB; have HO_6 := n0_; have HO_10 := n1_; have HO_545005 := n2_; have BK534 := n3_; have BK544 := n4_; have HB := n5_; clear n0_ n1_ n2_ n3_ n4_ n5_; (try clear hb)))
                 repeat (go_quiet (first | (go_at_call 12; (with_reducible refine (steeplelaw25_awake.calls k5  t566 _ A85.out).mono ?_); rintro e w87 ⟨rfl, hb⟩; have n0_ := Aside0.mk (Kd.N_below (naA HO_6.out) hb); have n1_ := Aside0.mk (Kd.N_below (naA HO_10.out) hb); have n2_ := Aside0.mk (Kd.R_below (raA HO_545005.out) hb); have n3_ := Aside0.mk (blk_below (bkA BK534.out) hb); have n4_ := Aside0.mk (blk_below (bkA BK544.out) hb); have n5_ := Aside0.mk (below_step (blA HB.out) hb); clear HO_6; clear HO_10; clear HO_545005; clear BK534; clear BK544; clear HB; have HO_6 := n0_; have HO_10 := n1_; have HO_545005 := n2_; have BK534 := n3_; have BK544 := n4_; have HB := n5_; clear n0_ n1_ n2_ n3_ n4_ n5_; (try clear hb))); try go_wp2_with (first | (go_at_call 12; (with_reducible refine (steeplelaw25_awake.calls k5  t566 _ A85.out).mono ?_); rintro e w87 ⟨rfl, hb⟩; have n0_ := Aside0.mk (Kd.N_below (naA HO_6.out) hb); have n1_ := Aside0.mk (Kd.N_below (naA HO_10.out) hb); have n2_ := Aside0.mk (Kd.R_below (raA HO_545005.out) hb); have n3_ := Aside0.mk (blk_below (bkA BK534.out) hb); have n4_ := Aside0.mk (blk_below (bkA BK544.out) hb); have n5_ := Aside0.mk (below_step (blA HB.out) hb); clear HO_6; clear HO_10; clear HO_545005; clear BK534; clear BK544; clear HB; have HO_6 := n0_; have HO_10 := n1_; have HO_545005 := n2_; have BK534 := n3_; have BK544 := n4_; have HB := n5_; clear n0_ n1_ n2_ n3_ n4_ n5_; (try clear hb))))
                 go_ret
                 exact ⟨by first | rfl | (simp [errW_none, errW_some] <;> rfl) | (simp [*, errW_none, errW_some] <;> rfl), blA HB.out⟩
       ·rw [if_neg c44] at H
        have c44b0 : (x8_10 == 0) = false := beq_eq_false_iff_ne.mpr c44; have c44b1 : (x8_10 != 0) = true := bne_iff_ne.mpr c44; replace H := Option.bind_eq_some_iff.mp H; obtain ⟨t560, A880, H⟩ := H
        (try dsimp only at H)
        have A88 := Aside0.mk A880; clear A880
        by_cases c89 : t560 = true
        ·subst c89
         have H1 : (some ((wrap64 ((t545.length : Int) + (t549.length : Int))) == 0)) = some r := by rw [if_pos rfl] at H; exact H
         clear H; have H := H1; clear H1; obtain rfl := Option.some.inj H
         go_wp2_with (first | (go_at_call 12; (with_reducible refine (steeplelaw25_awake.calls kj40  true _ A88.out).mono ?_); rintro e w90 ⟨rfl, hb⟩; have n0_ := Aside0.mk (Kd.R_below (raA HO_4.out) hb); have n1_ := Aside0.mk (Kd.N_below (naA HO_6.out) hb); have n2_ := Aside0.mk (Kd.R_below (raA HO_9.out) hb); have n3_ := Aside0.mk (Kd.N_below (naA HO_10.out) hb); have n4_ := Aside0.mk (Kd.R_below (raA HO_545005.out) hb); have n5_ := Aside0.mk (blk_below (bkA BK534.out) hb); have n6_ := Aside0.mk (blk_below (bkA BK544.out) hb); have n7_ := Aside0.mk (below_step (blA HB.out) hb); clear HO_4; clear HO_6; clear HO_9; clear HO_10; clear HO_545005; clear BK534; clear BK544; clear HB; have HO_4 := n0_; have HO_6 := n1_; have HO_9 := n2_; have HO_10 := n3_; have HO_545005 := n4_; have BK534 := n5_; have BK544 := n6_; have HB := n7_; clear n0_ n1_ n2_ n3_ n4_ n5_ n6_ n7_; (try clear hb); obtain ⟨Ao91, co91, eo91⟩ := Kd.R_slice HO_4.out; subst eo91; obtain ⟨Ao92, co92, eo92⟩ := Kd.N_slice HO_6.out; subst eo92))
         repeat (go_quiet (first | (go_at_call 12; (with_reducible refine (steeplelaw25_awake.calls kj40  true _ A88.out).mono ?_); rintro e w90 ⟨rfl, hb⟩; have n0_ := Aside0.mk (Kd.R_below (raA HO_4.out) hb); have n1_ := Aside0.mk (Kd.N_below (naA HO_6.out) hb); have n2_ := Aside0.mk (Kd.R_below (raA HO_9.out) hb); have n3_ := Aside0.mk (Kd.N_below (naA HO_10.out) hb); have n4_ := Aside0.mk (Kd.R_below (raA HO_545005.out) hb); have n5_ := Aside0.mk (blk_below (bkA BK534.out) hb); have n6_ := Aside0.mk (blk_below (bkA BK544.out) hb); have n7_ := Aside0.mk (below_step (blA HB.out) hb); clear HO_4; clear HO_6; clear HO_9; clear HO_10; clear HO_545005; clear BK534; clear BK544; clear HB; have HO_4 := n0_; have HO_6 := n1_; have HO_9 := n2_; have HO_10 := n3_; have HO_545005 := n4_; have BK534 := n5_; have BK544 := n6_; have HB := n7_; clear n0_ n1_ n2_ n3_ n4_ n5_ n6_ n7_; (try clear hb); obtain ⟨Ao91, co91, eo91⟩ := Kd.R_slice HO_4.out; subst eo91; obtain ⟨Ao92, co92, eo92⟩ := Kd.N_slice HO_6.out; subst eo92)); try go_wp2_with (first | (go_at_call 12; (with_reducible refine (steeplelaw25_awake.calls kj40  true _ A88.out).mono ?_); rintro e w90 ⟨rfl, hb⟩; have n0_ := Aside0.mk (Kd.R_below (raA HO_4.out) hb); have n1_ := Aside0.mk (Kd.N_below (naA HO_6.out) hb); have n2_ := Aside0.mk (Kd.R_below (raA HO_9.out) hb); have n3_ := Aside0.mk (Kd.N_below (naA HO_10.out) hb); have n4_ := Aside0.mk (Kd.R_below (raA HO_545005.out) hb); have n5_ := Aside0.mk (blk_below (bkA BK534.out) hb); have n6_ := Aside0.mk (blk_below (bkA BK544.out) hb); have n7_ := Aside0.mk (below_step (blA HB.out) hb); clear HO_4; clear HO_6; clear HO_9; clear HO_10; clear HO_545005; clear BK534; clear BK544; clear HB; have HO_4 := n0_; have HO_6 := n1_; have HO_9 := n2_; have HO_10 := n3_; have HO_545005 := n4_; have BK534 := n5_; have BK544 := n6_; have HB := n7_; clear n0_ n1_ n2_ n3_ n4_ n5_ n6_ n7_; (try clear hb); obtain ⟨Ao91, co91, eo91⟩ := Kd.R_slice HO_4.out; subst eo91; obtain ⟨Ao92, co92, eo92⟩ := Kd.N_slice HO_6.out; subst eo92)))
         go_ret
         exact ⟨by first | rfl | (simp [errW_none, errW_some] <;> rfl) | (simp [*, errW_none, errW_some] <;> rfl), blA HB.out⟩
        ·replace c89 := Bool.eq_false_iff.mpr c89; subst c89
         have H1 : (some false) = some r := by rw [if_neg (show ¬ (false = true) by decide)] at H; exact H
         clear H; have H := H1; clear H1; obtain rfl := Option.some.inj H
         go_wp2_with (first | (go_at_call 12; (with_reducible refine (steeplelaw25_awake.calls kj40  false _ A88.out).mono ?_); rintro e w93 ⟨rfl, hb⟩; have n0_ := Aside0.mk (Kd.R_below (raA HO_4.out) hb); have n1_ := Aside0.mk (Kd.N_below (naA HO_6.out) hb); have n2_ := Aside0.mk (Kd.R_below (raA HO_9.out) hb); have n3_ := Aside0.mk (Kd.N_below (naA HO_10.out) hb); have n4_ := Aside0.mk (Kd.R_below (raA HO_545005.out) hb); have n5_ := Aside0.mk (blk_below (bkA BK534.out) hb); have n6_ := Aside0.mk (blk_below (bkA BK544.out) hb); have n7_ := Aside0.mk (below_step (blA HB.out) hb); clear HO_4; clear HO_6; clear HO_9; clear HO_10; clear HO_545005; clear BK534; clear BK544; clear HB; have HO_4 := n0_; have HO_6 := n1_; have HO_9 := n2_; have HO_10 := n3_; have HO_545005 := n4_; have BK534 := n5_; have BK544 := n6_; have HB := n7_; clear n0_ n1_ n2_ n3_ n4_ n5_ n6_ n7_; (try clear hb)))
         repeat (go_quiet (first | (go_at_call 12; (with_reducible refine (steeplelaw25_awake.calls kj40  false _ A88.out).mono ?_); rintro e w93 ⟨rfl, hb⟩; have n0_ := Aside0.mk (Kd.R_below (raA HO_4.out) hb); have n1_ := Aside0.mk (Kd.N_below (naA HO_6.out) hb); have n2_ := Aside0.mk (Kd.R_below (raA HO_9.out) hb); have n3_ := Aside0.mk (Kd.N_below (naA HO_10.out) hb); have n4_ := Aside0.mk (Kd.R_below (raA HO_545005.out) hb); have n5_ := Aside0.mk (blk_below (bkA BK534.out) hb); have n6_ := Aside0.mk (blk_below (bkA BK544.out) hb); have n7_ := Aside0.mk (below_step (blA HB.out) hb); clear HO_4; clear HO_6; clear HO_9; clear HO_10; clear HO_545005; clear BK534; clear BK544; clear HB; have HO_4 := n0_; have HO_6 := n1_; have HO_9 := n2_; have HO_10 := n3_; have HO_545005 := n4_; have BK534 := n5_; have BK544 := n6_; have HB := n7_; clear n0_ n1_ n2_ n3_ n4_ n5_ n6_ n7_; (try clear hb))); try go_wp2_with (first | (go_at_call 12; (with_reducible refine (steeplelaw25_awake.calls kj40  false _ A88.out).mono ?_); rintro e w93 ⟨rfl, hb⟩; have n0_ := Aside0.mk (Kd.R_below (raA HO_4.out) hb); have n1_ := Aside0.mk (Kd.N_below (naA HO_6.out) hb); have n2_ := Aside0.mk (Kd.R_below (raA HO_9.out) hb); have n3_ := Aside0.mk (Kd.N_below (naA HO_10.out) hb); have n4_ := Aside0.mk (Kd.R_below (raA HO_545005.out) hb); have n5_ := Aside0.mk (blk_below (bkA BK534.out) hb); have n6_ := Aside0.mk (blk_below (bkA BK544.out) hb); have n7_ := Aside0.mk (below_step (blA HB.out) hb); clear HO_4; clear HO_6; clear HO_9; clear HO_10; clear HO_545005; clear BK534; clear BK544; clear HB; have HO_4 := n0_; have HO_6 := n1_; have HO_9 := n2_; have HO_10 := n3_; have HO_545005 := n4_; have BK534 := n5_; have BK544 := n6_; have HB := n7_; clear n0_ n1_ n2_ n3_ n4_ n5_ n6_ n7_; (try clear hb))))
         go_ret
         exact ⟨by first | rfl | (simp [errW_none, errW_some] <;> rfl) | (simp [*, errW_none, errW_some] <;> rfl), blA HB.out⟩
end Go.Proofs.Ythiiodgpdoljoaa.PLc
namespace Go.Proofs.Ythiiodgpdoljoaa.Pure
open Go.RowKit Go.Proofs.Ythiiodgpdoljoaa.PLc Go.Proofs.YthiiodgpdoljoaaW.PrintWords Go.Proofs.YthiiodgpdoljoaaW.PrintLast
set_option linter.unusedVariables false
set_option linter.unusedSimpArgs false
theorem walk_kinds {wide cols : Int} : ∀ (l : List S105) (n : Int), (walk wide cols l n).2 = 0 → ∀ g ∈ l, 1 ≤ g.f0 ∧ g.f0 ≤ 8
  | [], n, h => by simp
  | g :: gs, n, h => by
    unfold walk at h
    by_cases he : gErr wide cols g n = 0
    · simp only [he, if_true] at h
      have := gErr_ok he
      intro g' hg'
      rcases List.mem_cons.mp hg' with rfl | hg'
      · exact ⟨this.1, this.2.1⟩
      · exact walk_kinds gs _ h g' hg'
    · simp only [he, if_false] at h
theorem ref22Loop (l : List S76) (hl : l.length ≤ 1000) (d : Nat) : ∀ (k i : Nat) (acc : List S47), l.length - i = d → i ≤ l.length → acc.length = i → d < k →
    steeplelaw22_Ref.l0 k l acc (i : Int) = some (acc ++ (l.drop i).map toC) := by
  induction d with
  | zero =>
    intro k i acc hd hi ha hk
    obtain ⟨k, rfl⟩ : ∃ m, k = m + 1 := ⟨k - 1, by omega⟩
    simp only [steeplelaw22_Ref.l0]
    rw [if_neg (by omega), List.drop_of_length_le (by omega)]
    simp
  | succ d ih =>
    intro k i acc hd hi ha hk
    obtain ⟨k, rfl⟩ : ∃ m, k = m + 1 := ⟨k - 1, by omega⟩
    have hlt : i < l.length := by omega
    have e : rd_T76 l (i : Int) = l[i] := by simp [rd_T76, List.getD_eq_getElem?_getD, hlt]
    simp only [steeplelaw22_Ref.l0]
    rw [if_pos (by omega), if_pos (by omega), if_pos (by omega), e, w64 (by omega) (by omega), List.drop_eq_getElem_cons hlt]
    have := ih k (i + 1) (acc ++ [toC l[i]]) (by omega) (by omega) (by simp; omega) (by omega)
    have e : acc ++ List.map toC (l[i] :: List.drop (i + 1) l) = (acc ++ [toC l[i]]) ++ List.map toC (List.drop (i + 1) l) := by rw [List.map_cons, List.append_assoc]; rfl
    rw [e]
    exact this
theorem ref22 (k : Nat) (l : List S76) (hl : l.length ≤ 1000) (hk : l.length < k) : steeplelaw22_Ref.f k l = some (l.map toC) := by
  unfold steeplelaw22_Ref.f
  have := ref22Loop l hl l.length k 0 [] (by omega) (by omega) rfl hk
  simpa using this
theorem ref16Loop (l : List S118) (hl : l.length ≤ 1000) (d : Nat) : ∀ (k i : Nat) (acc : List S52), l.length - i = d → i ≤ l.length → acc.length = i → d < k →
    steeplelaw16_Ref.l0 k l acc (i : Int) = some (acc ++ (l.drop i).map toO) := by
  induction d with
  | zero =>
    intro k i acc hd hi ha hk
    obtain ⟨k, rfl⟩ : ∃ m, k = m + 1 := ⟨k - 1, by omega⟩
    simp only [steeplelaw16_Ref.l0]
    rw [if_neg (by omega), List.drop_of_length_le (by omega)]
    simp
  | succ d ih =>
    intro k i acc hd hi ha hk
    obtain ⟨k, rfl⟩ : ∃ m, k = m + 1 := ⟨k - 1, by omega⟩
    have hlt : i < l.length := by omega
    have e : rd_T118 l (i : Int) = l[i] := by simp [rd_T118, List.getD_eq_getElem?_getD, hlt]
    simp only [steeplelaw16_Ref.l0]
    rw [if_pos (by omega), if_pos (by omega), if_pos (by omega), e, w64 (by omega) (by omega), List.drop_eq_getElem_cons hlt]
    have := ih k (i + 1) (acc ++ [toO l[i]]) (by omega) (by omega) (by simp; omega) (by omega)
    have e : acc ++ List.map toO (l[i] :: List.drop (i + 1) l) = (acc ++ [toO l[i]]) ++ List.map toO (List.drop (i + 1) l) := by rw [List.map_cons, List.append_assoc]; rfl
    rw [e]
    exact this
theorem ref16 (k : Nat) (l : List S118) (hl : l.length ≤ 1000) (hk : l.length < k) : steeplelaw16_Ref.f k l = some (l.map toO) := by
  unfold steeplelaw16_Ref.f
  have := ref16Loop l hl l.length k 0 [] (by omega) (by omega) rfl hk
  simpa using this
theorem lawRow (x6 : List (List S118)) (x10 : List (List S52)) (i : Nat) (hi : i < x10.length) (r : List S52) (he : rd_L16 x10 (i : Int) = r) (hr : r.length ≤ 1000) (d : Nat) : ∀ (K j : Nat), r.length - j = d → j ≤ r.length →
    steeplelaw25_CircuitLays.l2 (K + d + 1) x6 x10 (i : Int) r (j : Int) = steeplelaw25_CircuitLays.l1 K x6 x10 (wrap64 ((i : Int) + 1)) := by
  induction d with
  | zero =>
    intro K j hd hj
    simp only [Nat.add_zero, steeplelaw25_CircuitLays.l2]
    rw [if_neg (by omega)]
  | succ d ih =>
    intro K j hd hj
    have hr := ih K (j + 1) (by omega) (by omega)
    obtain ⟨q, hq⟩ : ∃ q, K + d + 1 = q := ⟨_, rfl⟩
    rw [show K + (d + 1) + 1 = q + 1 from by omega]
    rw [hq] at hr
    simp only [steeplelaw25_CircuitLays.l2]
    rw [if_pos (by omega), if_pos (by omega), if_pos (by omega), if_pos (by omega), he, if_pos (by omega), if_neg (by simp), w64 (x := (j : Int) + 1) (by omega) (by omega)]
    exact hr
theorem lawConds (C : List (List S118)) (hC : C.length ≤ 1000) (hc : ∀ c ∈ C, c.length ≤ 20) (d : Nat) : ∀ (k i : Nat), C.length - i = d → i ≤ C.length → 30 * d + 150 < k →
    steeplelaw25_CircuitLays.l1 k C (C.map (·.map toO)) (i : Int) = some true := by
  induction d with
  | zero =>
    intro k i hd hi hk
    obtain ⟨k, rfl⟩ : ∃ m, k = m + 1 := ⟨k - 1, by omega⟩
    simp only [steeplelaw25_CircuitLays.l1]
    rw [if_neg (by omega), awake25 _ (by omega)]
    rfl
  | succ d ih =>
    intro k i hd hi hk
    have hlt : i < C.length := by omega
    have hl := hc C[i] (List.getElem_mem hlt)
    obtain ⟨k, rfl⟩ : ∃ m, k = m + C[i].length + 1 + 1 := ⟨k - (C[i].length + 1 + 1), by omega⟩
    have e : rd_L9 C (i : Int) = C[i] := by simp [rd_L9, List.getD_eq_getElem?_getD, hlt]
    have e2 : rd_L16 (C.map (·.map toO)) (i : Int) = C[i].map toO := by simp [rd_L16, List.getD_eq_getElem?_getD, hlt]
    simp only [steeplelaw25_CircuitLays.l1]
    rw [if_pos (by omega), if_pos (by omega), e, ref16 _ _ (by omega) (by omega)]
    simp only [Option.bind_some]
    rw [if_pos (by simp; omega), e2, if_pos rfl]
    have := lawRow C (C.map (·.map toO)) i (by simp; omega) (C[i].map toO) e2 (by simp; omega) C[i].length k 0 (by simp) (by omega)
    rw [show ((0 : Nat) : Int) = 0 from rfl] at this
    rw [this, w64 (by omega) (by omega)]
    exact ih k (i + 1) (by omega) (by omega) (by omega)
theorem lawWires (C : List (List S118)) (x10 : List (List S52)) (W : List S47) (hW : W.length ≤ 1000) (d : Nat) : ∀ (K j : Nat), W.length - j = d → j ≤ W.length →
    steeplelaw25_CircuitLays.l0 (K + d + 1) C W x10 W (j : Int) = steeplelaw25_CircuitLays.l1 K C x10 0 := by
  induction d with
  | zero =>
    intro K j hd hj
    simp only [Nat.add_zero, steeplelaw25_CircuitLays.l0]
    rw [if_neg (by omega)]
  | succ d ih =>
    intro K j hd hj
    have hr := ih K (j + 1) (by omega) (by omega)
    obtain ⟨q, hq⟩ : ∃ q, K + d + 1 = q := ⟨_, rfl⟩
    rw [show K + (d + 1) + 1 = q + 1 from by omega]
    rw [hq] at hr
    simp only [steeplelaw25_CircuitLays.l0]
    rw [if_pos (by omega), if_pos (by omega), if_pos (by omega), if_neg (by simp), w64 (x := (j : Int) + 1) (by omega) (by omega)]
    exact hr
theorem conds_elem (w : Int) (g : S105) (ws : List Int) : ∀ c ∈ conds w g ws, c.length ≤ 20 := by
  intro c hc
  unfold conds at hc
  split at hc; · simp at hc; subst hc; simp
  split at hc; · simp at hc; subst hc; simp
  split at hc; · simp at hc; subst hc; simp
  split at hc; · simp at hc; subst hc; simp
  split at hc
  · simp at hc; rcases hc with rfl | rfl <;> simp
  · simp at hc; rcases hc with rfl | rfl <;> simp
/-- The law's loops over what is laid: the same on both sides. -/
theorem lawSame (C : List (List S118)) (W : List S76) (hC : C.length ≤ 100) (hc : ∀ c ∈ C, c.length ≤ 20) (hW : W.length ≤ 1000) (k : Nat) (hk : 8000 ≤ k) :
    steeplelaw25_CircuitLays.j0 k W 0 C 0 0 (W.map toC) (C.map (·.map toO)) = some true := by
  obtain ⟨k, rfl⟩ : ∃ m, k = m + W.length + 1 + 3 := ⟨k - (W.length + 1 + 3), by omega⟩
  have h22 := ref22 (k + W.length + 1 + 1) W hW (by omega)
  have hl := lawWires C (C.map (·.map toO)) (W.map toC) (by simp; omega) W.length k 0 (by simp) (by omega)
  have hcs := lawConds C (by omega) hc C.length k 0 (by omega) (by omega) (by omega)
  generalize k + W.length + 1 = q at h22 hl ⊢
  simp only [steeplelaw25_CircuitLays.j0, steeplelaw25_CircuitLays.j1, steeplelaw25_CircuitLays.j2, if_true, bne_self_eq_false, Bool.false_eq_true, if_false, h22, Option.bind_some, List.length_map]
  exact hl.trans hcs
theorem lawErr (e : Int) (he : e ≠ 0) (x9 : List S47) (x10 : List (List S52)) (k : Nat) (hk : 200 ≤ k) : steeplelaw25_CircuitLays.j0 k [] e [] e e x9 x10 = some true := by
  obtain ⟨k, rfl⟩ : ∃ m, k = m + 2 := ⟨k - 2, by omega⟩
  simp only [steeplelaw25_CircuitLays.j0, steeplelaw25_CircuitLays.j1, if_true, bne_self_eq_false, Bool.false_eq_true, if_false]
  rw [if_neg he, awake25 _ (by omega)]
  simp [wrap64]
theorem laysPure (wide rows cols pub priv : Int) (l : List S105) : ∃ k, steeplelaw25_CircuitLays.f k wide rows cols pub priv l = some true := by
  refine ⟨9101, ?_⟩
  unfold steeplelaw25_CircuitLays.f
  by_cases h : (l.length : Int) > 40
  · rw [if_pos h, awake25 _ (by omega)]; rfl
  · rw [if_neg h, refG _ _ _ _ _ _ _ (by omega) (by omega)]
    simp only [Option.bind_some]
    have hC := refCheck 9001 wide rows cols pub priv l (by omega)
    have hc := checkSpec 9041 wide rows cols pub priv l
    rw [hC]
    unfold circuit_Wires.f circuit_Conds.f
    rw [hc]
    simp only [Option.bind_some]
    by_cases h0 : (lookS wide rows cols pub priv l).2 = 0
    · obtain ⟨a1, a2, a3, a4, a5, a6, a7, a8, a9, a10, hS⟩ := lookS_cases h0
      have hk := walk_kinds l (pub + priv) (by rw [← hS]; exact h0)
      have hko : kindsOk l = true := by
        unfold kindsOk
        rw [Bool.and_eq_true]
        exact ⟨List.all_eq_true.mpr fun g hg => decide_eq_true (hk g hg), decide_eq_true (by omega)⟩
      rw [h0, hko]
      simp only [Bool.true_eq_false, and_false, if_false, Option.bind_some, if_true]
      rw [refWires 9101 wide rows cols pub priv l hk a1 (by omega) (by omega), refConds 9101 wide rows cols pub priv l hk a1 (by omega) (by omega)]
      simp only [Option.bind_some, List.length_map]
      have hg := gateAll_own wide l hk
      have hz := wires_zv wide l [] (by simp)
      unfold layBd layErr
      rw [hg]
      simp only [ne_eq, not_true_eq_false, if_false]
      have hel : ∀ c ∈ (l.flatMap (fun g => conds wide g ((own wide g).map (fun x => (wIdx (wiresOf wide l []) x : Int))))), c.length ≤ 20 := by
        intro c hc
        obtain ⟨g, _, hg⟩ := List.mem_flatMap.mp hc
        exact conds_elem _ _ _ c hg
      generalize wiresOf wide l [] = W at hz hel ⊢
      generalize (l.flatMap (fun g => conds wide g ((own wide g).map (fun x => (wIdx W x : Int))))) = C at hel ⊢
      by_cases h40 : C.length > 40
      · have hI : (C.length : Int) > 40 := by omega
        rw [if_pos hI]
        simp only [h40, if_true, show ¬ ((2 : Int) = 0) from by decide, if_false]
        exact lawErr 2 (by decide) _ _ _ (by omega)
      · have hI : ¬ (C.length : Int) > 40 := by omega
        rw [if_neg hI]
        simp only [h40, if_true, if_false]
        exact lawSame C W (by omega) hel (by simp at hz; omega) _ (by omega)
    · have h1 : layErr wide l (lookS wide rows cols pub priv l).2 = (lookS wide rows cols pub priv l).2 := by unfold layErr; rw [if_pos h0]
      have h2 : layBd wide l (lookS wide rows cols pub priv l).2 = ⟨[], [], []⟩ := by unfold layBd; rw [h1, if_neg h0]
      rw [h1, h2, if_neg (fun h => h0 h.1), if_neg (fun h => h0 h.1)]
      simp only [Option.bind_some]
      rw [if_neg h0]
      exact lawErr _ h0 _ _ _ (by omega)
end Go.Proofs.Ythiiodgpdoljoaa.Pure
