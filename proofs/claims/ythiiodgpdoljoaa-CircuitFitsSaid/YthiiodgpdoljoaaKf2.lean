import Derived.Test.YthiiodgpdoljoaaKf1
import Derived.Test.YthiiodgpdoljoaaKf0
-- Words and walks that the kit's print has laid for this seat, cut down, and our own texts, merged.
namespace Go.Proofs.Ythiiodgpdoljoaa.PLc
open Go.RowKit Go.Proofs.YthiiodgpdoljoaaW.PrintWords Go.Proofs.YthiiodgpdoljoaaW.PrintLast Go.Proofs.YthiiodgpdoljoaaW.PrintMore
attribute [local go_sem] max2_int min2_int max_two min_two max_three min_three max_four min_four   -- for this text's walks alone
set_option linter.unusedVariables false
set_option linter.unusedSimpArgs false
/-! ### steepleref25_System_Gate: function 59 -/
mutual
def steepleref25_System_Gate.j0 : Nat → Int → Bool → Int → Int → Int → Int → Int → List (S106) → Int → Int → Int → Int → Int → Option (Int)
 | 0, _, _, _, _, _, _, _, _, _, _, _, _, _ => none
 | k + 1, x2, x14, x147000, x147001, x147002, x147003, x147004, x147005, x148000, x148001, x148002, x148003, x148004 => if x14 = true then (some 3) else ((steepleref25_two.f x148000).bind fun t148 => (if t148 = true then (if x148000 = 8 then (if x148001 = 0 then ((steepleref25_shifts.f x148000).bind fun t149 => (if t149 = true then (steepleref25_System_Gate.j1 k x2 false x147000 x147001 x147002 x147003 x147004 x147005 x148000 x148001 x148002 x148003 x148004) else (if x148000 = 7 then (steepleref25_System_Gate.j1 k x2 false x147000 x147001 x147002 x147003 x147004 x147005 x148000 x148001 x148002 x148003 x148004) else (steepleref25_System_Gate.j1 k x2 (x148004 != 0) x147000 x147001 x147002 x147003 x147004 x147005 x148000 x148001 x148002 x148003 x148004)))) else (steepleref25_System_Gate.j1 k x2 true x147000 x147001 x147002 x147003 x147004 x147005 x148000 x148001 x148002 x148003 x148004)) else ((steepleref25_shifts.f x148000).bind fun t150 => (if t150 = true then (steepleref25_System_Gate.j1 k x2 false x147000 x147001 x147002 x147003 x147004 x147005 x148000 x148001 x148002 x148003 x148004) else (if x148000 = 7 then (steepleref25_System_Gate.j1 k x2 false x147000 x147001 x147002 x147003 x147004 x147005 x148000 x148001 x148002 x148003 x148004) else (steepleref25_System_Gate.j1 k x2 (x148004 != 0) x147000 x147001 x147002 x147003 x147004 x147005 x148000 x148001 x148002 x148003 x148004))))) else (if x148003 = 0 then (if x148000 = 8 then (if x148001 = 0 then ((steepleref25_shifts.f x148000).bind fun t151 => (if t151 = true then (steepleref25_System_Gate.j1 k x2 false x147000 x147001 x147002 x147003 x147004 x147005 x148000 x148001 x148002 x148003 x148004) else (if x148000 = 7 then (steepleref25_System_Gate.j1 k x2 false x147000 x147001 x147002 x147003 x147004 x147005 x148000 x148001 x148002 x148003 x148004) else (steepleref25_System_Gate.j1 k x2 (x148004 != 0) x147000 x147001 x147002 x147003 x147004 x147005 x148000 x148001 x148002 x148003 x148004)))) else (steepleref25_System_Gate.j1 k x2 true x147000 x147001 x147002 x147003 x147004 x147005 x148000 x148001 x148002 x148003 x148004)) else ((steepleref25_shifts.f x148000).bind fun t152 => (if t152 = true then (steepleref25_System_Gate.j1 k x2 false x147000 x147001 x147002 x147003 x147004 x147005 x148000 x148001 x148002 x148003 x148004) else (if x148000 = 7 then (steepleref25_System_Gate.j1 k x2 false x147000 x147001 x147002 x147003 x147004 x147005 x148000 x148001 x148002 x148003 x148004) else (steepleref25_System_Gate.j1 k x2 (x148004 != 0) x147000 x147001 x147002 x147003 x147004 x147005 x148000 x148001 x148002 x148003 x148004))))) else (steepleref25_System_Gate.j1 k x2 true x147000 x147001 x147002 x147003 x147004 x147005 x148000 x148001 x148002 x148003 x148004))))
def steepleref25_System_Gate.j1 : Nat → Int → Bool → Int → Int → Int → Int → Int → List (S106) → Int → Int → Int → Int → Int → Option (Int)
 | 0, _, _, _, _, _, _, _, _, _, _, _, _, _ => none
 | k + 1, x2, x49, x147000, x147001, x147002, x147003, x147004, x147005, x148000, x148001, x148002, x148003, x148004 => if x49 = true then (some 3) else (if x148002 < 0 then (steepleref25_System_Gate.j2 k x2 true x147000 x147001 x147002 x147003 x147004 x147005 x148000 x148001 x148002 x148003 x148004) else (if x148002 ≥ x2 then (steepleref25_System_Gate.j2 k x2 true x147000 x147001 x147002 x147003 x147004 x147005 x148000 x148001 x148002 x148003 x148004) else ((steepleref25_two.f x148000).bind fun t153 => (if t153 = true then (if x148003 < 0 then (steepleref25_System_Gate.j2 k x2 true x147000 x147001 x147002 x147003 x147004 x147005 x148000 x148001 x148002 x148003 x148004) else (steepleref25_System_Gate.j2 k x2 (decide (x148003 ≥ x2)) x147000 x147001 x147002 x147003 x147004 x147005 x148000 x148001 x148002 x148003 x148004)) else (steepleref25_System_Gate.j2 k x2 false x147000 x147001 x147002 x147003 x147004 x147005 x148000 x148001 x148002 x148003 x148004)))))
def steepleref25_System_Gate.j2 : Nat → Int → Bool → Int → Int → Int → Int → Int → List (S106) → Int → Int → Int → Int → Int → Option (Int)
 | 0, _, _, _, _, _, _, _, _, _, _, _, _, _ => none
 | k + 1, x2, x74, x147000, x147001, x147002, x147003, x147004, x147005, x148000, x148001, x148002, x148003, x148004 => if x74 = true then (some 4) else ((steepleref25_shifts.f x148000).bind fun t154 => (if t154 = true then ((steepleref18_Fits.f k (wrap64 (x148000 - 3)) x147000 x148004).bind fun t155 => (steepleref25_System_Gate.j3 k x2 (!t155) x147000 x147001 x147002 x147003 x147004 x147005 x148000 x148001 x148002 x148003 x148004)) else (steepleref25_System_Gate.j3 k x2 false x147000 x147001 x147002 x147003 x147004 x147005 x148000 x148001 x148002 x148003 x148004)))
def steepleref25_System_Gate.j3 : Nat → Int → Bool → Int → Int → Int → Int → Int → List (S106) → Int → Int → Int → Int → Int → Option (Int)
 | 0, _, _, _, _, _, _, _, _, _, _, _, _, _ => none
 | k + 1, x2, x88, x147000, x147001, x147002, x147003, x147004, x147005, x148000, x148001, x148002, x148003, x148004 => if x88 = true then (some 1) else (if x148000 = 8 then (if x148000 = 7 then (steepleref25_System_Gate.j4 k x2 (x148004 != (wrap64 (x2 + 1))) x147000 x147001 x147002 x147003 x147004 x147005 x148000 x148001 x148002 x148003 x148004) else (steepleref25_System_Gate.j4 k x2 false x147000 x147001 x147002 x147003 x147004 x147005 x148000 x148001 x148002 x148003 x148004)) else (if x148001 = x2 then (if x148000 = 7 then (steepleref25_System_Gate.j4 k x2 (x148004 != (wrap64 (x2 + 1))) x147000 x147001 x147002 x147003 x147004 x147005 x148000 x148001 x148002 x148003 x148004) else (steepleref25_System_Gate.j4 k x2 false x147000 x147001 x147002 x147003 x147004 x147005 x148000 x148001 x148002 x148003 x148004)) else (steepleref25_System_Gate.j4 k x2 true x147000 x147001 x147002 x147003 x147004 x147005 x148000 x148001 x148002 x148003 x148004)))
def steepleref25_System_Gate.j4 : Nat → Int → Bool → Int → Int → Int → Int → Int → List (S106) → Int → Int → Int → Int → Int → Option (Int)
 | 0, _, _, _, _, _, _, _, _, _, _, _, _, _ => none
 | k + 1, x2, x109, x147000, x147001, x147002, x147003, x147004, x147005, x148000, x148001, x148002, x148003, x148004 => if x109 = true then (some 3) else ((steepleref25_Makes.f x148000 x148001 x148002 x148003 x148004).bind fun t156 => ((steepleref15_Two.f k x147002).bind fun t157 => (if (wrap64 (x2 + t156)) > t157 then (some 2) else (some 0))))
end
def steepleref25_System_Gate.f (k : Nat) (a0_0 : Int) (a0_1 : Int) (a0_2 : Int) (a0_3 : Int) (a0_4 : Int) (l0_5 : List (S106)) (a1_0 : Int) (a1_1 : Int) (a1_2 : Int) (a1_3 : Int) (a1_4 : Int) (a2 : Int) : Option (Int) := if a1_0 < 1 then (steepleref25_System_Gate.j0 k a2 true a0_0 a0_1 a0_2 a0_3 a0_4 l0_5 a1_0 a1_1 a1_2 a1_3 a1_4) else (steepleref25_System_Gate.j0 k a2 (decide (a1_0 > 8)) a0_0 a0_1 a0_2 a0_3 a0_4 l0_5 a1_0 a1_1 a1_2 a1_3 a1_4)
theorem steepleref25_System_Gate.mono_l : ∀ k, (∀ y0 y1 y2 y3 y4 y5 y6 y7 y8 y9 y10 y11 y12, LeO (steepleref25_System_Gate.j0 k y0 y1 y2 y3 y4 y5 y6 y7 y8 y9 y10 y11 y12) (steepleref25_System_Gate.j0 (k + 1) y0 y1 y2 y3 y4 y5 y6 y7 y8 y9 y10 y11 y12)) ∧ (∀ y0 y1 y2 y3 y4 y5 y6 y7 y8 y9 y10 y11 y12, LeO (steepleref25_System_Gate.j1 k y0 y1 y2 y3 y4 y5 y6 y7 y8 y9 y10 y11 y12) (steepleref25_System_Gate.j1 (k + 1) y0 y1 y2 y3 y4 y5 y6 y7 y8 y9 y10 y11 y12)) ∧ (∀ y0 y1 y2 y3 y4 y5 y6 y7 y8 y9 y10 y11 y12, LeO (steepleref25_System_Gate.j2 k y0 y1 y2 y3 y4 y5 y6 y7 y8 y9 y10 y11 y12) (steepleref25_System_Gate.j2 (k + 1) y0 y1 y2 y3 y4 y5 y6 y7 y8 y9 y10 y11 y12)) ∧ (∀ y0 y1 y2 y3 y4 y5 y6 y7 y8 y9 y10 y11 y12, LeO (steepleref25_System_Gate.j3 k y0 y1 y2 y3 y4 y5 y6 y7 y8 y9 y10 y11 y12) (steepleref25_System_Gate.j3 (k + 1) y0 y1 y2 y3 y4 y5 y6 y7 y8 y9 y10 y11 y12)) ∧ (∀ y0 y1 y2 y3 y4 y5 y6 y7 y8 y9 y10 y11 y12, LeO (steepleref25_System_Gate.j4 k y0 y1 y2 y3 y4 y5 y6 y7 y8 y9 y10 y11 y12) (steepleref25_System_Gate.j4 (k + 1) y0 y1 y2 y3 y4 y5 y6 y7 y8 y9 y10 y11 y12))
 | 0 => ⟨fun _ _ _ _ _ _ _ _ _ _ _ _ _ r h => by simp [steepleref25_System_Gate.j0] at h, fun _ _ _ _ _ _ _ _ _ _ _ _ _ r h => by simp [steepleref25_System_Gate.j1] at h, fun _ _ _ _ _ _ _ _ _ _ _ _ _ r h => by simp [steepleref25_System_Gate.j2] at h, fun _ _ _ _ _ _ _ _ _ _ _ _ _ r h => by simp [steepleref25_System_Gate.j3] at h, fun _ _ _ _ _ _ _ _ _ _ _ _ _ r h => by simp [steepleref25_System_Gate.j4] at h⟩
 | k + 1 => by
  obtain ⟨ih0, ih1, ih2, ih3, ih4⟩ := steepleref25_System_Gate.mono_l k
  refine ⟨?_, ?_, ?_, ?_, ?_⟩
  ·intro y0 y1 y2 y3 y4 y5 y6 y7 y8 y9 y10 y11 y12
   unfold steepleref25_System_Gate.j0
   repeat' first
   | (with_reducible exact ih0 _ _ _ _ _ _ _ _ _ _ _ _ _)
   | (with_reducible exact ih1 _ _ _ _ _ _ _ _ _ _ _ _ _)
   | (with_reducible exact ih2 _ _ _ _ _ _ _ _ _ _ _ _ _)
   | (with_reducible exact ih3 _ _ _ _ _ _ _ _ _ _ _ _ _)
   | (with_reducible exact ih4 _ _ _ _ _ _ _ _ _ _ _ _ _)
   | (with_reducible exact steepleref15_Two.mono _ _)
   | (with_reducible exact steepleref18_Fits.mono _ _ _ _)
   | (with_reducible exact LeO.refl _)
   | (with_reducible exact LeO.none _)
   | (with_reducible refine LeO.ite ?_ ?_)
   | (with_reducible refine LeO.bind ?_ (fun _ => ?_))
   | exact ih0 _ _ _ _ _ _ _ _ _ _ _ _ _
   | exact ih1 _ _ _ _ _ _ _ _ _ _ _ _ _
   | exact ih2 _ _ _ _ _ _ _ _ _ _ _ _ _
   | exact ih3 _ _ _ _ _ _ _ _ _ _ _ _ _
   | exact ih4 _ _ _ _ _ _ _ _ _ _ _ _ _
   | exact steepleref15_Two.mono _ _
   | exact steepleref18_Fits.mono _ _ _ _
   | exact LeO.none _
   | refine LeO.ite ?_ ?_
   | refine LeO.bind ?_ (fun _ => ?_)
  ·intro y0 y1 y2 y3 y4 y5 y6 y7 y8 y9 y10 y11 y12
   unfold steepleref25_System_Gate.j1
   repeat' first
   | (with_reducible exact ih0 _ _ _ _ _ _ _ _ _ _ _ _ _)
   | (with_reducible exact ih1 _ _ _ _ _ _ _ _ _ _ _ _ _)
   | (with_reducible exact ih2 _ _ _ _ _ _ _ _ _ _ _ _ _)
   | (with_reducible exact ih3 _ _ _ _ _ _ _ _ _ _ _ _ _)
   | (with_reducible exact ih4 _ _ _ _ _ _ _ _ _ _ _ _ _)
   | (with_reducible exact steepleref15_Two.mono _ _)
   | (with_reducible exact steepleref18_Fits.mono _ _ _ _)
   | (with_reducible exact LeO.refl _)
   | (with_reducible exact LeO.none _)
   | (with_reducible refine LeO.ite ?_ ?_)
   | (with_reducible refine LeO.bind ?_ (fun _ => ?_))
   | exact ih0 _ _ _ _ _ _ _ _ _ _ _ _ _
   | exact ih1 _ _ _ _ _ _ _ _ _ _ _ _ _
   | exact ih2 _ _ _ _ _ _ _ _ _ _ _ _ _
   | exact ih3 _ _ _ _ _ _ _ _ _ _ _ _ _
   | exact ih4 _ _ _ _ _ _ _ _ _ _ _ _ _
   | exact steepleref15_Two.mono _ _
   | exact steepleref18_Fits.mono _ _ _ _
   | exact LeO.none _
   | refine LeO.ite ?_ ?_
   | refine LeO.bind ?_ (fun _ => ?_)
  ·intro y0 y1 y2 y3 y4 y5 y6 y7 y8 y9 y10 y11 y12
   unfold steepleref25_System_Gate.j2
   repeat' first
   | (with_reducible exact ih0 _ _ _ _ _ _ _ _ _ _ _ _ _)
   | (with_reducible exact ih1 _ _ _ _ _ _ _ _ _ _ _ _ _)
   | (with_reducible exact ih2 _ _ _ _ _ _ _ _ _ _ _ _ _)
   | (with_reducible exact ih3 _ _ _ _ _ _ _ _ _ _ _ _ _)
   | (with_reducible exact ih4 _ _ _ _ _ _ _ _ _ _ _ _ _)
   | (with_reducible exact steepleref15_Two.mono _ _)
   | (with_reducible exact steepleref18_Fits.mono _ _ _ _)
   | (with_reducible exact LeO.refl _)
   | (with_reducible exact LeO.none _)
   | (with_reducible refine LeO.ite ?_ ?_)
   | (with_reducible refine LeO.bind ?_ (fun _ => ?_))
   | exact ih0 _ _ _ _ _ _ _ _ _ _ _ _ _
   | exact ih1 _ _ _ _ _ _ _ _ _ _ _ _ _
   | exact ih2 _ _ _ _ _ _ _ _ _ _ _ _ _
   | exact ih3 _ _ _ _ _ _ _ _ _ _ _ _ _
   | exact ih4 _ _ _ _ _ _ _ _ _ _ _ _ _
   | exact steepleref15_Two.mono _ _
   | exact steepleref18_Fits.mono _ _ _ _
   | exact LeO.none _
   | refine LeO.ite ?_ ?_
   | refine LeO.bind ?_ (fun _ => ?_)
  ·intro y0 y1 y2 y3 y4 y5 y6 y7 y8 y9 y10 y11 y12
   unfold steepleref25_System_Gate.j3
   repeat' first
   | (with_reducible exact ih0 _ _ _ _ _ _ _ _ _ _ _ _ _)
   | (with_reducible exact ih1 _ _ _ _ _ _ _ _ _ _ _ _ _)
   | (with_reducible exact ih2 _ _ _ _ _ _ _ _ _ _ _ _ _)
   | (with_reducible exact ih3 _ _ _ _ _ _ _ _ _ _ _ _ _)
   | (with_reducible exact ih4 _ _ _ _ _ _ _ _ _ _ _ _ _)
   | (with_reducible exact steepleref15_Two.mono _ _)
   | (with_reducible exact steepleref18_Fits.mono _ _ _ _)
   | (with_reducible exact LeO.refl _)
   | (with_reducible exact LeO.none _)
   | (with_reducible refine LeO.ite ?_ ?_)
   | (with_reducible refine LeO.bind ?_ (fun _ => ?_))
   | exact ih0 _ _ _ _ _ _ _ _ _ _ _ _ _
   | exact ih1 _ _ _ _ _ _ _ _ _ _ _ _ _
   | exact ih2 _ _ _ _ _ _ _ _ _ _ _ _ _
   | exact ih3 _ _ _ _ _ _ _ _ _ _ _ _ _
   | exact ih4 _ _ _ _ _ _ _ _ _ _ _ _ _
   | exact steepleref15_Two.mono _ _
   | exact steepleref18_Fits.mono _ _ _ _
   | exact LeO.none _
   | refine LeO.ite ?_ ?_
   | refine LeO.bind ?_ (fun _ => ?_)
  ·intro y0 y1 y2 y3 y4 y5 y6 y7 y8 y9 y10 y11 y12
   unfold steepleref25_System_Gate.j4
   repeat' first
   | (with_reducible exact ih0 _ _ _ _ _ _ _ _ _ _ _ _ _)
   | (with_reducible exact ih1 _ _ _ _ _ _ _ _ _ _ _ _ _)
   | (with_reducible exact ih2 _ _ _ _ _ _ _ _ _ _ _ _ _)
   | (with_reducible exact ih3 _ _ _ _ _ _ _ _ _ _ _ _ _)
   | (with_reducible exact ih4 _ _ _ _ _ _ _ _ _ _ _ _ _)
   | (with_reducible exact steepleref15_Two.mono _ _)
   | (with_reducible exact steepleref18_Fits.mono _ _ _ _)
   | (with_reducible exact LeO.refl _)
   | (with_reducible exact LeO.none _)
   | (with_reducible refine LeO.ite ?_ ?_)
   | (with_reducible refine LeO.bind ?_ (fun _ => ?_))
   | exact ih0 _ _ _ _ _ _ _ _ _ _ _ _ _
   | exact ih1 _ _ _ _ _ _ _ _ _ _ _ _ _
   | exact ih2 _ _ _ _ _ _ _ _ _ _ _ _ _
   | exact ih3 _ _ _ _ _ _ _ _ _ _ _ _ _
   | exact ih4 _ _ _ _ _ _ _ _ _ _ _ _ _
   | exact steepleref15_Two.mono _ _
   | exact steepleref18_Fits.mono _ _ _ _
   | exact LeO.none _
   | refine LeO.ite ?_ ?_
   | refine LeO.bind ?_ (fun _ => ?_)
theorem steepleref25_System_Gate.mono : ∀ a0 a1 a2 a3 a4 a5 a6 a7 a8 a9 a10 a11 k, LeO (steepleref25_System_Gate.f k a0 a1 a2 a3 a4 a5 a6 a7 a8 a9 a10 a11) (steepleref25_System_Gate.f (k + 1) a0 a1 a2 a3 a4 a5 a6 a7 a8 a9 a10 a11) := by
 intro a0 a1 a2 a3 a4 a5 a6 a7 a8 a9 a10 a11 k
 obtain ⟨ih0, ih1, ih2, ih3, ih4⟩ := steepleref25_System_Gate.mono_l k
 unfold steepleref25_System_Gate.f
 repeat' first
   | (with_reducible exact ih0 _ _ _ _ _ _ _ _ _ _ _ _ _)
   | (with_reducible exact ih1 _ _ _ _ _ _ _ _ _ _ _ _ _)
   | (with_reducible exact ih2 _ _ _ _ _ _ _ _ _ _ _ _ _)
   | (with_reducible exact ih3 _ _ _ _ _ _ _ _ _ _ _ _ _)
   | (with_reducible exact ih4 _ _ _ _ _ _ _ _ _ _ _ _ _)
   | (with_reducible exact steepleref15_Two.mono _ _)
   | (with_reducible exact steepleref18_Fits.mono _ _ _ _)
   | (with_reducible exact LeO.refl _)
   | (with_reducible exact LeO.none _)
   | (with_reducible refine LeO.ite ?_ ?_)
   | (with_reducible refine LeO.bind ?_ (fun _ => ?_))
   | exact ih0 _ _ _ _ _ _ _ _ _ _ _ _ _
   | exact ih1 _ _ _ _ _ _ _ _ _ _ _ _ _
   | exact ih2 _ _ _ _ _ _ _ _ _ _ _ _ _
   | exact ih3 _ _ _ _ _ _ _ _ _ _ _ _ _
   | exact ih4 _ _ _ _ _ _ _ _ _ _ _ _ _
   | exact steepleref15_Two.mono _ _
   | exact steepleref18_Fits.mono _ _ _ _
   | exact LeO.none _
   | refine LeO.ite ?_ ?_
   | refine LeO.bind ?_ (fun _ => ?_)
def steepleref25_System_Gate.T11 : Bool × List (List Nat × List Nat) := (true, [([], []), ([], []), ([1], [1]), ([0, 2], [0, 2]), ([], []), ([4], [4]), ([5, 2], [5]), ([3, 6], [3, 6])])
def steepleref25_System_Gate.B11 : List Nat := [0, 0, 2, 7, 0, 16, 54, 127]
theorem steepleref25_System_Gate.tab11 : rtab .any (opsOf Try.f59 11) = steepleref25_System_Gate.T11 := by kernel_rfl
theorem steepleref25_System_Gate.bits11 : waitsOk steepleref25_System_Gate.T11.2 steepleref25_System_Gate.B11 = true := by kernel_rfl
set_option maxHeartbeats 8000000 in
set_option maxRecDepth 100000 in
theorem steepleref25_System_Gate.calls (k : Nat) (a0_0 : Int) (a0_1 : Int) (a0_2 : Int) (a0_3 : Int) (a0_4 : Int) (A0_5 : Option Addr) (c0_5 : Nat) (l0_5 : List (S106)) (a1_0 : Int) (a1_1 : Int) (a1_2 : Int) (a1_3 : Int) (a1_4 : Int) (a2 : Int) (r : Int) (w : World) (hr0_5 : Kd.C k106 w A0_5 l0_5.length l0_5) (hc0_5 : l0_5.length ≤ c0_5) (h : steepleref25_System_Gate.f k a0_0 a0_1 a0_2 a0_3 a0_4 l0_5 a1_0 a1_1 a1_2 a1_3 a1_4 a2 = some r) :
  Calls Try.prog 59 #[.agg #[.int .i64 a0_0, .int .i64 a0_1, .int .i64 a0_2, .int .i64 a0_3, .int .i64 a0_4, .slice A0_5 l0_5.length c0_5], .agg #[.int .i64 a1_0, .int .i64 a1_1, .int .i64 a1_2, .int .i64 a1_3, .int .i64 a1_4], .int .i64 a2] w fun e w' => e = .returned (.int .i64 r) ∧ Below w.heap.size w w' := by
 have hu28 := Try.underlying28; have hu106 := Try.underlying106; have HR0_5 := Aside0.mk hr0_5; have HC0_5 := Aside0.mk hc0_5; clear hr0_5 hc0_5; have HB := Aside0.mk (Below.refl w.heap.size w)
 have H : (if a1_0 < 1 then (steepleref25_System_Gate.j0 k a2 true a0_0 a0_1 a0_2 a0_3 a0_4 l0_5 a1_0 a1_1 a1_2 a1_3 a1_4) else (steepleref25_System_Gate.j0 k a2 (decide (a1_0 > 8)) a0_0 a0_1 a0_2 a0_3 a0_4 l0_5 a1_0 a1_1 a1_2 a1_3 a1_4)) = some r := h
 clear h; have HC4 := Aside0.mk H; clear H
 go_enter Try.func59, Try.ntmps59
 go_upto_region 1 with (first | ((with_reducible refine gate_dst (N := 3) rfl ?_); refine box_event ?hg (N := 3) ?hd (cs := #[.int .i64 a0_0, .int .i64 a0_1, .int .i64 a0_2, .int .i64 a0_3, .int .i64 a0_4, .slice A0_5 l0_5.length c0_5]) (t := 28) ?hr ?_; (case hd => rfl); (case hg => rfl); (case hr => first | (go_simp; done) | (go_simp; rfl)); intro gb146 hg w5 hbox hb; have n0_ := Aside0.mk (below_step (blA HB.out) hb); have n1_ := Aside0.mk (hbox); have n2_ := Aside0.mk ((by rw [hg]; exact (below_size (blA HB.out)) : w.heap.size ≤ gb146)); have n3_ := Aside0.mk ((by rw [hg]; exact (below_size (blA HB.out)) : w.heap.size ≤ gb146)); clear HB; have HB := n0_; have BK146 := n1_; have GW146 := n2_; have GE146 := n3_; clear n0_ n1_ n2_ n3_; clear hb hbox hg) | ((with_reducible refine gate_dst (N := 4) rfl ?_); refine box_event ?hg (N := 4) ?hd (cs := #[.int .i64 a1_0, .int .i64 a1_1, .int .i64 a1_2, .int .i64 a1_3, .int .i64 a1_4]) (t := 106) ?hr ?_; (case hd => rfl); (case hg => rfl); (case hr => first | (go_simp; done) | (go_simp; rfl)); intro gb147 hg w6 hbox hb; have n0_ := Aside0.mk (blk_below (bkA BK146.out) hb); have n1_ := Aside0.mk (below_step (blA HB.out) hb); have n2_ := Aside0.mk (hbox); have n3_ := Aside0.mk ((by rw [hg]; exact (below_size (blA HB.out)) : w.heap.size ≤ gb147)); have n4_ := Aside0.mk ((by rw [hg]; exact (below_size (blA HB.out)) : w.heap.size ≤ gb147)); have n5_ := Aside0.mk ((by rw [hg]; exact Nat.ne_of_lt (blk_lt (bkA BK146.out)) : gb146 ≠ gb147)); have n6_ := Aside0.mk ((by rw [hg]; exact Nat.ne_of_gt (blk_lt (bkA BK146.out)) : gb147 ≠ gb146)); clear BK146; clear HB; have BK146 := n0_; have HB := n1_; have BK147 := n2_; have GW147 := n3_; have GE147 := n4_; have NB146_147 := n5_; have NB147_146 := n6_; clear n0_ n1_ n2_ n3_ n4_ n5_ n6_; clear hb hbox hg))
 (try simp only [Act.put, List.setIfInBounds_toArray, List.set_cons_zero, List.set_cons_succ])
 go_cut [14] (fun v14 wc => ∃ (kq : Nat) (x14_3 : Bool), v14 = .bool x14_3 ∧ Aside0 (steepleref25_System_Gate.j0 kq a2 x14_3 a0_0 a0_1 a0_2 a0_3 a0_4 l0_5 a1_0 a1_1 a1_2 a1_3 a1_4 = some r) ∧ Aside0 (kq ≤ k) ∧ Aside0 (wc.heap[gb146]? = some (.cells #[.int .i64 a0_0, .int .i64 a0_1, .int .i64 a0_2, .int .i64 a0_3, .int .i64 a0_4, (.slice A0_5 l0_5.length c0_5)] 28 (0, 0))) ∧ Aside0 (wc.heap[gb147]? = some (.cells #[.int .i64 a1_0, .int .i64 a1_1, .int .i64 a1_2, .int .i64 a1_3, .int .i64 a1_4] 106 (0, 0))) ∧ Aside0 (Below w.heap.size w wc))
 case first =>
  have H := HC4.out; clear HC4
  by_cases c7 : a1_0 < 1
  ·rw [if_pos c7] at H
   have c7b0 : decide (a1_0 < 1) = true := decide_eq_true c7; clear c7
   (first | rw [c7b0] | (simp only [i64_w, i32_w]; rw [c7b0]) | skip)
   have H' := Aside0.mk H; clear H; have hnb8 := NB147_146.out; have hnc8 := NB146_147.out
   have hcz9 := fun i => blk_cell BK147.out i
   have hfz9 := fun i => blk_frozen BK147.out i
   go_wp2
   go_meet
   case rel => exact ⟨_, (true), eqA, H', ⟨omA⟩, ⟨bkA BK146.out⟩, ⟨bkA BK147.out⟩, ⟨blA HB.out⟩⟩
  ·rw [if_neg c7] at H
   have c7b0 : decide (a1_0 < 1) = false := decide_eq_false c7; clear c7
   (first | rw [c7b0] | (simp only [i64_w, i32_w]; rw [c7b0]) | skip)
   have H' := Aside0.mk H; clear H; have hnb10 := NB147_146.out; have hnc10 := NB146_147.out
   have hcz11 := fun i => blk_cell BK147.out i
   have hfz11 := fun i => blk_frozen BK147.out i
   go_wp2
   go_meet
   case rel => exact ⟨_, (decide (a1_0 > 8)), eqA, H', ⟨omA⟩, ⟨bkA BK146.out⟩, ⟨bkA BK147.out⟩, ⟨blA HB.out⟩⟩
 case rest =>
  clear HC4; (try clear c1); (try clear p2); (try clear c5); (try clear c7); (try clear c7b0); (try clear c8); (try clear c10); (try clear hcz11); (try clear hcz9); (try clear hfz11); (try clear hfz9); obtain ⟨kq, x14_3, rfl, HA, HJ3, BK146, BK147, HB⟩ := hcut
  cases kq with
  | zero => exact absurd HA.out (by simp [steepleref25_System_Gate.j0])
  | succ kj3 =>
   have H := HA.out; clear HA
   simp only [steepleref25_System_Gate.j0] at H
   by_cases c12 : x14_3 = true
   ·subst c12
    have H1 : (some 3) = some r := by rw [if_pos rfl] at H; exact H
    clear H; have H := H1; clear H1; obtain rfl := Option.some.inj H
    go_wp2
    go_ret
    exact ⟨by first | rfl | (simp [errW_none, errW_some] <;> rfl) | (simp [*, errW_none, errW_some] <;> rfl), blA HB.out⟩
   ·replace c12 := Bool.eq_false_iff.mpr c12; subst c12
    have H1 : ((steepleref25_two.f a1_0).bind fun t148 => (if t148 = true then (if a1_0 = 8 then (if a1_1 = 0 then ((steepleref25_shifts.f a1_0).bind fun t149 => (if t149 = true then (steepleref25_System_Gate.j1 kj3 a2 false a0_0 a0_1 a0_2 a0_3 a0_4 l0_5 a1_0 a1_1 a1_2 a1_3 a1_4) else (if a1_0 = 7 then (steepleref25_System_Gate.j1 kj3 a2 false a0_0 a0_1 a0_2 a0_3 a0_4 l0_5 a1_0 a1_1 a1_2 a1_3 a1_4) else (steepleref25_System_Gate.j1 kj3 a2 (a1_4 != 0) a0_0 a0_1 a0_2 a0_3 a0_4 l0_5 a1_0 a1_1 a1_2 a1_3 a1_4)))) else (steepleref25_System_Gate.j1 kj3 a2 true a0_0 a0_1 a0_2 a0_3 a0_4 l0_5 a1_0 a1_1 a1_2 a1_3 a1_4)) else ((steepleref25_shifts.f a1_0).bind fun t150 => (if t150 = true then (steepleref25_System_Gate.j1 kj3 a2 false a0_0 a0_1 a0_2 a0_3 a0_4 l0_5 a1_0 a1_1 a1_2 a1_3 a1_4) else (if a1_0 = 7 then (steepleref25_System_Gate.j1 kj3 a2 false a0_0 a0_1 a0_2 a0_3 a0_4 l0_5 a1_0 a1_1 a1_2 a1_3 a1_4) else (steepleref25_System_Gate.j1 kj3 a2 (a1_4 != 0) a0_0 a0_1 a0_2 a0_3 a0_4 l0_5 a1_0 a1_1 a1_2 a1_3 a1_4))))) else (if a1_3 = 0 then (if a1_0 = 8 then (if a1_1 = 0 then ((steepleref25_shifts.f a1_0).bind fun t151 => (if t151 = true then (steepleref25_System_Gate.j1 kj3 a2 false a0_0 a0_1 a0_2 a0_3 a0_4 l0_5 a1_0 a1_1 a1_2 a1_3 a1_4) else (if a1_0 = 7 then (steepleref25_System_Gate.j1 kj3 a2 false a0_0 a0_1 a0_2 a0_3 a0_4 l0_5 a1_0 a1_1 a1_2 a1_3 a1_4) else (steepleref25_System_Gate.j1 kj3 a2 (a1_4 != 0) a0_0 a0_1 a0_2 a0_3 a0_4 l0_5 a1_0 a1_1 a1_2 a1_3 a1_4)))) else (steepleref25_System_Gate.j1 kj3 a2 true a0_0 a0_1 a0_2 a0_3 a0_4 l0_5 a1_0 a1_1 a1_2 a1_3 a1_4)) else ((steepleref25_shifts.f a1_0).bind fun t152 => (if t152 = true then (steepleref25_System_Gate.j1 kj3 a2 false a0_0 a0_1 a0_2 a0_3 a0_4 l0_5 a1_0 a1_1 a1_2 a1_3 a1_4) else (if a1_0 = 7 then (steepleref25_System_Gate.j1 kj3 a2 false a0_0 a0_1 a0_2 a0_3 a0_4 l0_5 a1_0 a1_1 a1_2 a1_3 a1_4) else (steepleref25_System_Gate.j1 kj3 a2 (a1_4 != 0) a0_0 a0_1 a0_2 a0_3 a0_4 l0_5 a1_0 a1_1 a1_2 a1_3 a1_4))))) else (steepleref25_System_Gate.j1 kj3 a2 true a0_0 a0_1 a0_2 a0_3 a0_4 l0_5 a1_0 a1_1 a1_2 a1_3 a1_4)))) = some r := by rw [if_neg (show ¬ (false = true) by decide)] at H; exact H
    clear H; have H := H1; clear H1; have HC13 := Aside0.mk H; clear H
    go_upto_region 3 with (fail)
    go_cut [49] (fun v49 wc => ∃ (kq : Nat) (x49_12 : Bool), v49 = .bool x49_12 ∧ Aside0 (steepleref25_System_Gate.j1 kq a2 x49_12 a0_0 a0_1 a0_2 a0_3 a0_4 l0_5 a1_0 a1_1 a1_2 a1_3 a1_4 = some r) ∧ Aside0 (kq ≤ kj3) ∧ Aside0 (wc.heap[gb146]? = some (.cells #[.int .i64 a0_0, .int .i64 a0_1, .int .i64 a0_2, .int .i64 a0_3, .int .i64 a0_4, (.slice A0_5 l0_5.length c0_5)] 28 (0, 0))) ∧ Aside0 (wc.heap[gb147]? = some (.cells #[.int .i64 a1_0, .int .i64 a1_1, .int .i64 a1_2, .int .i64 a1_3, .int .i64 a1_4] 106 (0, 0))) ∧ Aside0 (Below w.heap.size w wc))
    case first =>
     have H := HC13.out; clear HC13; replace H := Option.bind_eq_some_iff.mp H; obtain ⟨t148, A140, H⟩ := H
     (try dsimp only at H)
     have A14 := Aside0.mk A140; clear A140
     by_cases c15 : t148 = true
     ·subst c15
      have H1 : (if a1_0 = 8 then (if a1_1 = 0 then ((steepleref25_shifts.f a1_0).bind fun t149 => (if t149 = true then (steepleref25_System_Gate.j1 kj3 a2 false a0_0 a0_1 a0_2 a0_3 a0_4 l0_5 a1_0 a1_1 a1_2 a1_3 a1_4) else (if a1_0 = 7 then (steepleref25_System_Gate.j1 kj3 a2 false a0_0 a0_1 a0_2 a0_3 a0_4 l0_5 a1_0 a1_1 a1_2 a1_3 a1_4) else (steepleref25_System_Gate.j1 kj3 a2 (a1_4 != 0) a0_0 a0_1 a0_2 a0_3 a0_4 l0_5 a1_0 a1_1 a1_2 a1_3 a1_4)))) else (steepleref25_System_Gate.j1 kj3 a2 true a0_0 a0_1 a0_2 a0_3 a0_4 l0_5 a1_0 a1_1 a1_2 a1_3 a1_4)) else ((steepleref25_shifts.f a1_0).bind fun t150 => (if t150 = true then (steepleref25_System_Gate.j1 kj3 a2 false a0_0 a0_1 a0_2 a0_3 a0_4 l0_5 a1_0 a1_1 a1_2 a1_3 a1_4) else (if a1_0 = 7 then (steepleref25_System_Gate.j1 kj3 a2 false a0_0 a0_1 a0_2 a0_3 a0_4 l0_5 a1_0 a1_1 a1_2 a1_3 a1_4) else (steepleref25_System_Gate.j1 kj3 a2 (a1_4 != 0) a0_0 a0_1 a0_2 a0_3 a0_4 l0_5 a1_0 a1_1 a1_2 a1_3 a1_4))))) = some r := by rw [if_pos rfl] at H; exact H
      clear H; have H := H1; clear H1
      by_cases c16 : a1_0 = 8
      ·rw [if_pos c16] at H
       have c16b0 : (a1_0 == 8) = true := beq_iff_eq.mpr c16; have c16b1 : (a1_0 != 8) = false := bne_eq_false_iff_eq.mpr c16; clear c16
       (first | rw [c16b0] | (simp only [i64_w, i32_w]; rw [c16b0]) | skip)
       by_cases c17 : a1_1 = 0
       ·rw [if_pos c17] at H
        have c17b0 : (a1_1 == 0) = true := beq_iff_eq.mpr c17; have c17b1 : (a1_1 != 0) = false := bne_eq_false_iff_eq.mpr c17; clear c17; replace H := Option.bind_eq_some_iff.mp H; obtain ⟨t149, A180, H⟩ := H
        (try dsimp only at H)
        have A18 := Aside0.mk A180; clear A180
        by_cases c19 : t149 = true
        ·subst c19
         have H1 : (steepleref25_System_Gate.j1 kj3 a2 false a0_0 a0_1 a0_2 a0_3 a0_4 l0_5 a1_0 a1_1 a1_2 a1_3 a1_4) = some r := by rw [if_pos rfl] at H; exact H
         clear H; have H := H1; clear H1; have H' := Aside0.mk H; clear H; have hnb20 := NB147_146.out; have hnc20 := NB146_147.out
         have hcz21 := fun i => blk_cell BK147.out i
         have hfz21 := fun i => blk_frozen BK147.out i
         go_wp2_with (first | ((with_reducible refine gate_callee (f := 89) rfl ?_); refine goesL_ (some 17) rfl rfl Try.func89 (by kernel_rfl) rfl #[.int .i64 a1_0] rfl gsA ?_; (with_reducible refine (steepleref25_two.calls a1_0 true _ A14.out).mono ?_); rintro e w' ⟨rfl, ⟨nd, rfl⟩⟩; refine ⟨_, rfl, ?_⟩) | (go_at_call 90; (with_reducible refine (steepleref25_shifts.calls a1_0 true _ A18.out).mono ?_); rintro e w' ⟨rfl, ⟨nd, rfl⟩⟩))
         go_meet
         case rel => exact ⟨_, (false), eqA, H', ⟨by have := HJ3.out; first | omega | exact Nat.le_refl _⟩, ⟨bkA BK146.out⟩, ⟨bkA BK147.out⟩, ⟨blA HB.out⟩⟩
        ·replace c19 := Bool.eq_false_iff.mpr c19; subst c19
         have H1 : (if a1_0 = 7 then (steepleref25_System_Gate.j1 kj3 a2 false a0_0 a0_1 a0_2 a0_3 a0_4 l0_5 a1_0 a1_1 a1_2 a1_3 a1_4) else (steepleref25_System_Gate.j1 kj3 a2 (a1_4 != 0) a0_0 a0_1 a0_2 a0_3 a0_4 l0_5 a1_0 a1_1 a1_2 a1_3 a1_4)) = some r := by rw [if_neg (show ¬ (false = true) by decide)] at H; exact H
         clear H; have H := H1; clear H1
         by_cases c22 : a1_0 = 7
         ·rw [if_pos c22] at H
          have c22b0 : (a1_0 == 7) = true := beq_iff_eq.mpr c22; have c22b1 : (a1_0 != 7) = false := bne_eq_false_iff_eq.mpr c22; clear c22; have H' := Aside0.mk H; clear H; have hnb23 := NB147_146.out; have hnc23 := NB146_147.out
          have hcz24 := fun i => blk_cell BK147.out i
          have hfz24 := fun i => blk_frozen BK147.out i
          go_wp2_with (first | ((with_reducible refine gate_callee (f := 89) rfl ?_); refine goesL_ (some 17) rfl rfl Try.func89 (by kernel_rfl) rfl #[.int .i64 a1_0] rfl gsA ?_; (with_reducible refine (steepleref25_two.calls a1_0 true _ A14.out).mono ?_); rintro e w' ⟨rfl, ⟨nd, rfl⟩⟩; refine ⟨_, rfl, ?_⟩) | (go_at_call 90; (with_reducible refine (steepleref25_shifts.calls a1_0 false _ A18.out).mono ?_); rintro e w' ⟨rfl, ⟨nd, rfl⟩⟩))
          go_meet
          case rel => exact ⟨_, (false), eqA, H', ⟨by have := HJ3.out; first | omega | exact Nat.le_refl _⟩, ⟨bkA BK146.out⟩, ⟨bkA BK147.out⟩, ⟨blA HB.out⟩⟩
         ·rw [if_neg c22] at H
          have c22b0 : (a1_0 == 7) = false := beq_eq_false_iff_ne.mpr c22; have c22b1 : (a1_0 != 7) = true := bne_iff_ne.mpr c22; have H' := Aside0.mk H; clear H; have hnb25 := NB147_146.out; have hnc25 := NB146_147.out
          have hcz26 := fun i => blk_cell BK147.out i
          have hfz26 := fun i => blk_frozen BK147.out i
          go_wp2_with (first | ((with_reducible refine gate_callee (f := 89) rfl ?_); refine goesL_ (some 17) rfl rfl Try.func89 (by kernel_rfl) rfl #[.int .i64 a1_0] rfl gsA ?_; (with_reducible refine (steepleref25_two.calls a1_0 true _ A14.out).mono ?_); rintro e w' ⟨rfl, ⟨nd, rfl⟩⟩; refine ⟨_, rfl, ?_⟩) | (go_at_call 90; (with_reducible refine (steepleref25_shifts.calls a1_0 false _ A18.out).mono ?_); rintro e w' ⟨rfl, ⟨nd, rfl⟩⟩))
          go_meet
          case rel => exact ⟨_, ((a1_4 != 0)), eqA, H', ⟨by have := HJ3.out; first | omega | exact Nat.le_refl _⟩, ⟨bkA BK146.out⟩, ⟨bkA BK147.out⟩, ⟨blA HB.out⟩⟩
       ·rw [if_neg c17] at H
        have c17b0 : (a1_1 == 0) = false := beq_eq_false_iff_ne.mpr c17; have c17b1 : (a1_1 != 0) = true := bne_iff_ne.mpr c17; have H' := Aside0.mk H; clear H; have hnb27 := NB147_146.out; have hnc27 := NB146_147.out
        have hcz28 := fun i => blk_cell BK147.out i
        have hfz28 := fun i => blk_frozen BK147.out i
        go_wp2_with (first | ((with_reducible refine gate_callee (f := 89) rfl ?_); refine goesL_ (some 17) rfl rfl Try.func89 (by kernel_rfl) rfl #[.int .i64 a1_0] rfl gsA ?_; (with_reducible refine (steepleref25_two.calls a1_0 true _ A14.out).mono ?_); rintro e w' ⟨rfl, ⟨nd, rfl⟩⟩; refine ⟨_, rfl, ?_⟩))
        go_meet
        case rel => exact ⟨_, (true), eqA, H', ⟨by have := HJ3.out; first | omega | exact Nat.le_refl _⟩, ⟨bkA BK146.out⟩, ⟨bkA BK147.out⟩, ⟨blA HB.out⟩⟩
      ·rw [if_neg c16] at H
       have c16b0 : (a1_0 == 8) = false := beq_eq_false_iff_ne.mpr c16; have c16b1 : (a1_0 != 8) = true := bne_iff_ne.mpr c16
       (first | rw [c16b0] | (simp only [i64_w, i32_w]; rw [c16b0]) | skip)
       replace H := Option.bind_eq_some_iff.mp H; obtain ⟨t150, A290, H⟩ := H
       (try dsimp only at H)
       have A29 := Aside0.mk A290; clear A290
       by_cases c30 : t150 = true
       ·subst c30
        have H1 : (steepleref25_System_Gate.j1 kj3 a2 false a0_0 a0_1 a0_2 a0_3 a0_4 l0_5 a1_0 a1_1 a1_2 a1_3 a1_4) = some r := by rw [if_pos rfl] at H; exact H
        clear H; have H := H1; clear H1; have H' := Aside0.mk H; clear H; have hnb31 := NB147_146.out; have hnc31 := NB146_147.out
        have hcz32 := fun i => blk_cell BK147.out i
        have hfz32 := fun i => blk_frozen BK147.out i
        go_wp2_with (first | ((with_reducible refine gate_callee (f := 89) rfl ?_); refine goesL_ (some 17) rfl rfl Try.func89 (by kernel_rfl) rfl #[.int .i64 a1_0] rfl gsA ?_; (with_reducible refine (steepleref25_two.calls a1_0 true _ A14.out).mono ?_); rintro e w' ⟨rfl, ⟨nd, rfl⟩⟩; refine ⟨_, rfl, ?_⟩) | (go_at_call 90; (with_reducible refine (steepleref25_shifts.calls a1_0 true _ A29.out).mono ?_); rintro e w' ⟨rfl, ⟨nd, rfl⟩⟩))
        go_meet
        case rel => exact ⟨_, (false), eqA, H', ⟨by have := HJ3.out; first | omega | exact Nat.le_refl _⟩, ⟨bkA BK146.out⟩, ⟨bkA BK147.out⟩, ⟨blA HB.out⟩⟩
       ·replace c30 := Bool.eq_false_iff.mpr c30; subst c30
        have H1 : (if a1_0 = 7 then (steepleref25_System_Gate.j1 kj3 a2 false a0_0 a0_1 a0_2 a0_3 a0_4 l0_5 a1_0 a1_1 a1_2 a1_3 a1_4) else (steepleref25_System_Gate.j1 kj3 a2 (a1_4 != 0) a0_0 a0_1 a0_2 a0_3 a0_4 l0_5 a1_0 a1_1 a1_2 a1_3 a1_4)) = some r := by rw [if_neg (show ¬ (false = true) by decide)] at H; exact H
        clear H; have H := H1; clear H1
        by_cases c33 : a1_0 = 7
        ·rw [if_pos c33] at H
         have c33b0 : (a1_0 == 7) = true := beq_iff_eq.mpr c33; have c33b1 : (a1_0 != 7) = false := bne_eq_false_iff_eq.mpr c33; clear c33; have H' := Aside0.mk H; clear H; have hnb34 := NB147_146.out; have hnc34 := NB146_147.out
         have hcz35 := fun i => blk_cell BK147.out i
         have hfz35 := fun i => blk_frozen BK147.out i
         go_wp2_with (first | ((with_reducible refine gate_callee (f := 89) rfl ?_); refine goesL_ (some 17) rfl rfl Try.func89 (by kernel_rfl) rfl #[.int .i64 a1_0] rfl gsA ?_; (with_reducible refine (steepleref25_two.calls a1_0 true _ A14.out).mono ?_); rintro e w' ⟨rfl, ⟨nd, rfl⟩⟩; refine ⟨_, rfl, ?_⟩) | (go_at_call 90; (with_reducible refine (steepleref25_shifts.calls a1_0 false _ A29.out).mono ?_); rintro e w' ⟨rfl, ⟨nd, rfl⟩⟩))
         go_meet
         case rel => exact ⟨_, (false), eqA, H', ⟨by have := HJ3.out; first | omega | exact Nat.le_refl _⟩, ⟨bkA BK146.out⟩, ⟨bkA BK147.out⟩, ⟨blA HB.out⟩⟩
        ·rw [if_neg c33] at H
         have c33b0 : (a1_0 == 7) = false := beq_eq_false_iff_ne.mpr c33; have c33b1 : (a1_0 != 7) = true := bne_iff_ne.mpr c33; have H' := Aside0.mk H; clear H; have hnb36 := NB147_146.out; have hnc36 := NB146_147.out
         have hcz37 := fun i => blk_cell BK147.out i
         have hfz37 := fun i => blk_frozen BK147.out i
         go_wp2_with (first | ((with_reducible refine gate_callee (f := 89) rfl ?_); refine goesL_ (some 17) rfl rfl Try.func89 (by kernel_rfl) rfl #[.int .i64 a1_0] rfl gsA ?_; (with_reducible refine (steepleref25_two.calls a1_0 true _ A14.out).mono ?_); rintro e w' ⟨rfl, ⟨nd, rfl⟩⟩; refine ⟨_, rfl, ?_⟩) | (go_at_call 90; (with_reducible refine (steepleref25_shifts.calls a1_0 false _ A29.out).mono ?_); rintro e w' ⟨rfl, ⟨nd, rfl⟩⟩))
         go_meet
         case rel => exact ⟨_, ((a1_4 != 0)), eqA, H', ⟨by have := HJ3.out; first | omega | exact Nat.le_refl _⟩, ⟨bkA BK146.out⟩, ⟨bkA BK147.out⟩, ⟨blA HB.out⟩⟩
     ·replace c15 := Bool.eq_false_iff.mpr c15; subst c15
      have H1 : (if a1_3 = 0 then (if a1_0 = 8 then (if a1_1 = 0 then ((steepleref25_shifts.f a1_0).bind fun t151 => (if t151 = true then (steepleref25_System_Gate.j1 kj3 a2 false a0_0 a0_1 a0_2 a0_3 a0_4 l0_5 a1_0 a1_1 a1_2 a1_3 a1_4) else (if a1_0 = 7 then (steepleref25_System_Gate.j1 kj3 a2 false a0_0 a0_1 a0_2 a0_3 a0_4 l0_5 a1_0 a1_1 a1_2 a1_3 a1_4) else (steepleref25_System_Gate.j1 kj3 a2 (a1_4 != 0) a0_0 a0_1 a0_2 a0_3 a0_4 l0_5 a1_0 a1_1 a1_2 a1_3 a1_4)))) else (steepleref25_System_Gate.j1 kj3 a2 true a0_0 a0_1 a0_2 a0_3 a0_4 l0_5 a1_0 a1_1 a1_2 a1_3 a1_4)) else ((steepleref25_shifts.f a1_0).bind fun t152 => (if t152 = true then (steepleref25_System_Gate.j1 kj3 a2 false a0_0 a0_1 a0_2 a0_3 a0_4 l0_5 a1_0 a1_1 a1_2 a1_3 a1_4) else (if a1_0 = 7 then (steepleref25_System_Gate.j1 kj3 a2 false a0_0 a0_1 a0_2 a0_3 a0_4 l0_5 a1_0 a1_1 a1_2 a1_3 a1_4) else (steepleref25_System_Gate.j1 kj3 a2 (a1_4 != 0) a0_0 a0_1 a0_2 a0_3 a0_4 l0_5 a1_0 a1_1 a1_2 a1_3 a1_4))))) else (steepleref25_System_Gate.j1 kj3 a2 true a0_0 a0_1 a0_2 a0_3 a0_4 l0_5 a1_0 a1_1 a1_2 a1_3 a1_4)) = some r := by rw [if_neg (show ¬ (false = true) by decide)] at H; exact H
      clear H; have H := H1; clear H1
      by_cases c38 : a1_3 = 0
      ·rw [if_pos c38] at H
       have c38b0 : (a1_3 == 0) = true := beq_iff_eq.mpr c38; have c38b1 : (a1_3 != 0) = false := bne_eq_false_iff_eq.mpr c38; clear c38
       by_cases c39 : a1_0 = 8
       ·rw [if_pos c39] at H
        have c39b0 : (a1_0 == 8) = true := beq_iff_eq.mpr c39; have c39b1 : (a1_0 != 8) = false := bne_eq_false_iff_eq.mpr c39; clear c39
        by_cases c40 : a1_1 = 0
        ·rw [if_pos c40] at H
         have c40b0 : (a1_1 == 0) = true := beq_iff_eq.mpr c40; have c40b1 : (a1_1 != 0) = false := bne_eq_false_iff_eq.mpr c40; clear c40; replace H := Option.bind_eq_some_iff.mp H; obtain ⟨t151, A410, H⟩ := H
         (try dsimp only at H)
         have A41 := Aside0.mk A410; clear A410
         by_cases c42 : t151 = true
         ·subst c42
          have H1 : (steepleref25_System_Gate.j1 kj3 a2 false a0_0 a0_1 a0_2 a0_3 a0_4 l0_5 a1_0 a1_1 a1_2 a1_3 a1_4) = some r := by rw [if_pos rfl] at H; exact H
          clear H; have H := H1; clear H1; have H' := Aside0.mk H; clear H; have hnb43 := NB147_146.out; have hnc43 := NB146_147.out
          have hcz44 := fun i => blk_cell BK147.out i
          have hfz44 := fun i => blk_frozen BK147.out i
          go_wp2_with (first | ((with_reducible refine gate_callee (f := 89) rfl ?_); refine goesL_ (some 17) rfl rfl Try.func89 (by kernel_rfl) rfl #[.int .i64 a1_0] rfl gsA ?_; (with_reducible refine (steepleref25_two.calls a1_0 false _ A14.out).mono ?_); rintro e w' ⟨rfl, ⟨nd, rfl⟩⟩; refine ⟨_, rfl, ?_⟩) | (go_at_call 90; (with_reducible refine (steepleref25_shifts.calls a1_0 true _ A41.out).mono ?_); rintro e w' ⟨rfl, ⟨nd, rfl⟩⟩))
          go_meet
          case rel => exact ⟨_, (false), eqA, H', ⟨by have := HJ3.out; first | omega | exact Nat.le_refl _⟩, ⟨bkA BK146.out⟩, ⟨bkA BK147.out⟩, ⟨blA HB.out⟩⟩
         ·replace c42 := Bool.eq_false_iff.mpr c42; subst c42
          have H1 : (if a1_0 = 7 then (steepleref25_System_Gate.j1 kj3 a2 false a0_0 a0_1 a0_2 a0_3 a0_4 l0_5 a1_0 a1_1 a1_2 a1_3 a1_4) else (steepleref25_System_Gate.j1 kj3 a2 (a1_4 != 0) a0_0 a0_1 a0_2 a0_3 a0_4 l0_5 a1_0 a1_1 a1_2 a1_3 a1_4)) = some r := by rw [if_neg (show ¬ (false = true) by decide)] at H; exact H
          clear H; have H := H1; clear H1
          by_cases c45 : a1_0 = 7
          ·rw [if_pos c45] at H
           have c45b0 : (a1_0 == 7) = true := beq_iff_eq.mpr c45; have c45b1 : (a1_0 != 7) = false := bne_eq_false_iff_eq.mpr c45; clear c45; have H' := Aside0.mk H; clear H; have hnb46 := NB147_146.out; have hnc46 := NB146_147.out
           have hcz47 := fun i => blk_cell BK147.out i
           have hfz47 := fun i => blk_frozen BK147.out i
           go_wp2_with (first | ((with_reducible refine gate_callee (f := 89) rfl ?_); refine goesL_ (some 17) rfl rfl Try.func89 (by kernel_rfl) rfl #[.int .i64 a1_0] rfl gsA ?_; (with_reducible refine (steepleref25_two.calls a1_0 false _ A14.out).mono ?_); rintro e w' ⟨rfl, ⟨nd, rfl⟩⟩; refine ⟨_, rfl, ?_⟩) | (go_at_call 90; (with_reducible refine (steepleref25_shifts.calls a1_0 false _ A41.out).mono ?_); rintro e w' ⟨rfl, ⟨nd, rfl⟩⟩))
           go_meet
           case rel => exact ⟨_, (false), eqA, H', ⟨by have := HJ3.out; first | omega | exact Nat.le_refl _⟩, ⟨bkA BK146.out⟩, ⟨bkA BK147.out⟩, ⟨blA HB.out⟩⟩
          ·rw [if_neg c45] at H
           have c45b0 : (a1_0 == 7) = false := beq_eq_false_iff_ne.mpr c45; have c45b1 : (a1_0 != 7) = true := bne_iff_ne.mpr c45; have H' := Aside0.mk H; clear H; have hnb48 := NB147_146.out; have hnc48 := NB146_147.out
           have hcz49 := fun i => blk_cell BK147.out i
           have hfz49 := fun i => blk_frozen BK147.out i
           go_wp2_with (first | ((with_reducible refine gate_callee (f := 89) rfl ?_); refine goesL_ (some 17) rfl rfl Try.func89 (by kernel_rfl) rfl #[.int .i64 a1_0] rfl gsA ?_; (with_reducible refine (steepleref25_two.calls a1_0 false _ A14.out).mono ?_); rintro e w' ⟨rfl, ⟨nd, rfl⟩⟩; refine ⟨_, rfl, ?_⟩) | (go_at_call 90; (with_reducible refine (steepleref25_shifts.calls a1_0 false _ A41.out).mono ?_); rintro e w' ⟨rfl, ⟨nd, rfl⟩⟩))
           go_meet
           case rel => exact ⟨_, ((a1_4 != 0)), eqA, H', ⟨by have := HJ3.out; first | omega | exact Nat.le_refl _⟩, ⟨bkA BK146.out⟩, ⟨bkA BK147.out⟩, ⟨blA HB.out⟩⟩
        ·rw [if_neg c40] at H
         have c40b0 : (a1_1 == 0) = false := beq_eq_false_iff_ne.mpr c40; have c40b1 : (a1_1 != 0) = true := bne_iff_ne.mpr c40; have H' := Aside0.mk H; clear H; have hnb50 := NB147_146.out; have hnc50 := NB146_147.out
         have hcz51 := fun i => blk_cell BK147.out i
         have hfz51 := fun i => blk_frozen BK147.out i
         go_wp2_with (first | ((with_reducible refine gate_callee (f := 89) rfl ?_); refine goesL_ (some 17) rfl rfl Try.func89 (by kernel_rfl) rfl #[.int .i64 a1_0] rfl gsA ?_; (with_reducible refine (steepleref25_two.calls a1_0 false _ A14.out).mono ?_); rintro e w' ⟨rfl, ⟨nd, rfl⟩⟩; refine ⟨_, rfl, ?_⟩))
         go_meet
         case rel => exact ⟨_, (true), eqA, H', ⟨by have := HJ3.out; first | omega | exact Nat.le_refl _⟩, ⟨bkA BK146.out⟩, ⟨bkA BK147.out⟩, ⟨blA HB.out⟩⟩
       ·rw [if_neg c39] at H
        have c39b0 : (a1_0 == 8) = false := beq_eq_false_iff_ne.mpr c39; have c39b1 : (a1_0 != 8) = true := bne_iff_ne.mpr c39; replace H := Option.bind_eq_some_iff.mp H; obtain ⟨t152, A520, H⟩ := H
        (try dsimp only at H)
        have A52 := Aside0.mk A520; clear A520
        by_cases c53 : t152 = true
        ·subst c53
         have H1 : (steepleref25_System_Gate.j1 kj3 a2 false a0_0 a0_1 a0_2 a0_3 a0_4 l0_5 a1_0 a1_1 a1_2 a1_3 a1_4) = some r := by rw [if_pos rfl] at H; exact H
         clear H; have H := H1; clear H1; have H' := Aside0.mk H; clear H; have hnb54 := NB147_146.out; have hnc54 := NB146_147.out
         have hcz55 := fun i => blk_cell BK147.out i
         have hfz55 := fun i => blk_frozen BK147.out i
         go_wp2_with (first | ((with_reducible refine gate_callee (f := 89) rfl ?_); refine goesL_ (some 17) rfl rfl Try.func89 (by kernel_rfl) rfl #[.int .i64 a1_0] rfl gsA ?_; (with_reducible refine (steepleref25_two.calls a1_0 false _ A14.out).mono ?_); rintro e w' ⟨rfl, ⟨nd, rfl⟩⟩; refine ⟨_, rfl, ?_⟩) | (go_at_call 90; (with_reducible refine (steepleref25_shifts.calls a1_0 true _ A52.out).mono ?_); rintro e w' ⟨rfl, ⟨nd, rfl⟩⟩))
         go_meet
         case rel => exact ⟨_, (false), eqA, H', ⟨by have := HJ3.out; first | omega | exact Nat.le_refl _⟩, ⟨bkA BK146.out⟩, ⟨bkA BK147.out⟩, ⟨blA HB.out⟩⟩
        ·replace c53 := Bool.eq_false_iff.mpr c53; subst c53
         have H1 : (if a1_0 = 7 then (steepleref25_System_Gate.j1 kj3 a2 false a0_0 a0_1 a0_2 a0_3 a0_4 l0_5 a1_0 a1_1 a1_2 a1_3 a1_4) else (steepleref25_System_Gate.j1 kj3 a2 (a1_4 != 0) a0_0 a0_1 a0_2 a0_3 a0_4 l0_5 a1_0 a1_1 a1_2 a1_3 a1_4)) = some r := by rw [if_neg (show ¬ (false = true) by decide)] at H; exact H
         clear H; have H := H1; clear H1
         by_cases c56 : a1_0 = 7
         ·rw [if_pos c56] at H
          have c56b0 : (a1_0 == 7) = true := beq_iff_eq.mpr c56; have c56b1 : (a1_0 != 7) = false := bne_eq_false_iff_eq.mpr c56; clear c56; have H' := Aside0.mk H; clear H; have hnb57 := NB147_146.out; have hnc57 := NB146_147.out
          have hcz58 := fun i => blk_cell BK147.out i
          have hfz58 := fun i => blk_frozen BK147.out i
          go_wp2_with (first | ((with_reducible refine gate_callee (f := 89) rfl ?_); refine goesL_ (some 17) rfl rfl Try.func89 (by kernel_rfl) rfl #[.int .i64 a1_0] rfl gsA ?_; (with_reducible refine (steepleref25_two.calls a1_0 false _ A14.out).mono ?_); rintro e w' ⟨rfl, ⟨nd, rfl⟩⟩; refine ⟨_, rfl, ?_⟩) | (go_at_call 90; (with_reducible refine (steepleref25_shifts.calls a1_0 false _ A52.out).mono ?_); rintro e w' ⟨rfl, ⟨nd, rfl⟩⟩))
          go_meet
          case rel => exact ⟨_, (false), eqA, H', ⟨by have := HJ3.out; first | omega | exact Nat.le_refl _⟩, ⟨bkA BK146.out⟩, ⟨bkA BK147.out⟩, ⟨blA HB.out⟩⟩
         ·rw [if_neg c56] at H
          have c56b0 : (a1_0 == 7) = false := beq_eq_false_iff_ne.mpr c56; have c56b1 : (a1_0 != 7) = true := bne_iff_ne.mpr c56; have H' := Aside0.mk H; clear H; have hnb59 := NB147_146.out; have hnc59 := NB146_147.out
          have hcz60 := fun i => blk_cell BK147.out i
          have hfz60 := fun i => blk_frozen BK147.out i
          go_wp2_with (first | ((with_reducible refine gate_callee (f := 89) rfl ?_); refine goesL_ (some 17) rfl rfl Try.func89 (by kernel_rfl) rfl #[.int .i64 a1_0] rfl gsA ?_; (with_reducible refine (steepleref25_two.calls a1_0 false _ A14.out).mono ?_); rintro e w' ⟨rfl, ⟨nd, rfl⟩⟩; refine ⟨_, rfl, ?_⟩) | (go_at_call 90; (with_reducible refine (steepleref25_shifts.calls a1_0 false _ A52.out).mono ?_); rintro e w' ⟨rfl, ⟨nd, rfl⟩⟩))
          go_meet
          case rel => exact ⟨_, ((a1_4 != 0)), eqA, H', ⟨by have := HJ3.out; first | omega | exact Nat.le_refl _⟩, ⟨bkA BK146.out⟩, ⟨bkA BK147.out⟩, ⟨blA HB.out⟩⟩
      ·rw [if_neg c38] at H
       have c38b0 : (a1_3 == 0) = false := beq_eq_false_iff_ne.mpr c38; have c38b1 : (a1_3 != 0) = true := bne_iff_ne.mpr c38; have H' := Aside0.mk H; clear H; have hnb61 := NB147_146.out; have hnc61 := NB146_147.out
       have hcz62 := fun i => blk_cell BK147.out i
       have hfz62 := fun i => blk_frozen BK147.out i
       go_wp2_with (first | ((with_reducible refine gate_callee (f := 89) rfl ?_); refine goesL_ (some 17) rfl rfl Try.func89 (by kernel_rfl) rfl #[.int .i64 a1_0] rfl gsA ?_; (with_reducible refine (steepleref25_two.calls a1_0 false _ A14.out).mono ?_); rintro e w' ⟨rfl, ⟨nd, rfl⟩⟩; refine ⟨_, rfl, ?_⟩))
       go_meet
       case rel => exact ⟨_, (true), eqA, H', ⟨by have := HJ3.out; first | omega | exact Nat.le_refl _⟩, ⟨bkA BK146.out⟩, ⟨bkA BK147.out⟩, ⟨blA HB.out⟩⟩
    case rest =>
     clear HC13; (try clear c1); (try clear c2); (try clear p2); (try clear c3); (try clear c4); (try clear c5); (try clear c6); (try clear c7); (try clear c7b0); (try clear c8); (try clear c10); (try clear c12); (try clear c15); (try clear c16); (try clear c16b0); (try clear c16b1); (try clear c17); (try clear c17b0); (try clear c17b1); (try clear c19); (try clear c20); (try clear c22); (try clear c22b0); (try clear c22b1); (try clear c23); (try clear c25); (try clear c27); (try clear c30); (try clear c31); (try clear c33); (try clear c33b0); (try clear c33b1); (try clear c34); (try clear c36); (try clear c38); (try clear c38b0); (try clear c38b1); (try clear c39); (try clear c39b0); (try clear c39b1); (try clear c40); (try clear c40b0); (try clear c40b1); (try clear c42); (try clear c43); (try clear c45); (try clear c45b0); (try clear c45b1); (try clear c46); (try clear c48); (try clear c50); (try clear c53); (try clear c54); (try clear c56); (try clear c56b0); (try clear c56b1); (try clear c57); (try clear c59); (try clear c61); (try clear hcz11); (try clear hcz21); (try clear hcz24); (try clear hcz26); (try clear hcz28); (try clear hcz32); (try clear hcz35); (try clear hcz37); (try clear hcz44); (try clear hcz47); (try clear hcz49); (try clear hcz51); (try clear hcz55); (try clear hcz58); (try clear hcz60); (try clear hcz62); (try clear hcz9); (try clear hfz11); (try clear hfz21); (try clear hfz24); (try clear hfz26); (try clear hfz28); (try clear hfz32); (try clear hfz35); (try clear hfz37); (try clear hfz44); (try clear hfz47); (try clear hfz49); (try clear hfz51); (try clear hfz55); (try clear hfz58); (try clear hfz60); (try clear hfz62); (try clear hfz9); (try clear p2); obtain ⟨kq, x49_12, rfl, HA, HJ12, BK146, BK147, HB⟩ := hcut
     cases kq with
     | zero => exact absurd HA.out (by simp [steepleref25_System_Gate.j1])
     | succ kj12 =>
      have H := HA.out; clear HA
      simp only [steepleref25_System_Gate.j1] at H
      by_cases c63 : x49_12 = true
      ·subst c63
       have H1 : (some 3) = some r := by rw [if_pos rfl] at H; exact H
       clear H; have H := H1; clear H1; obtain rfl := Option.some.inj H
       go_wp2
       go_ret
       exact ⟨by first | rfl | (simp [errW_none, errW_some] <;> rfl) | (simp [*, errW_none, errW_some] <;> rfl), blA HB.out⟩
      ·replace c63 := Bool.eq_false_iff.mpr c63; subst c63
       have H1 : (if a1_2 < 0 then (steepleref25_System_Gate.j2 kj12 a2 true a0_0 a0_1 a0_2 a0_3 a0_4 l0_5 a1_0 a1_1 a1_2 a1_3 a1_4) else (if a1_2 ≥ a2 then (steepleref25_System_Gate.j2 kj12 a2 true a0_0 a0_1 a0_2 a0_3 a0_4 l0_5 a1_0 a1_1 a1_2 a1_3 a1_4) else ((steepleref25_two.f a1_0).bind fun t153 => (if t153 = true then (if a1_3 < 0 then (steepleref25_System_Gate.j2 kj12 a2 true a0_0 a0_1 a0_2 a0_3 a0_4 l0_5 a1_0 a1_1 a1_2 a1_3 a1_4) else (steepleref25_System_Gate.j2 kj12 a2 (decide (a1_3 ≥ a2)) a0_0 a0_1 a0_2 a0_3 a0_4 l0_5 a1_0 a1_1 a1_2 a1_3 a1_4)) else (steepleref25_System_Gate.j2 kj12 a2 false a0_0 a0_1 a0_2 a0_3 a0_4 l0_5 a1_0 a1_1 a1_2 a1_3 a1_4))))) = some r := by rw [if_neg (show ¬ (false = true) by decide)] at H; exact H
       clear H; have H := H1; clear H1; have HC64 := Aside0.mk H; clear H
       go_upto_region 5 with (fail)
       go_cut [74] (fun v74 wc => ∃ (kq : Nat) (x74_63 : Bool), v74 = .bool x74_63 ∧ Aside0 (steepleref25_System_Gate.j2 kq a2 x74_63 a0_0 a0_1 a0_2 a0_3 a0_4 l0_5 a1_0 a1_1 a1_2 a1_3 a1_4 = some r) ∧ Aside0 (kq ≤ kj12) ∧ Aside0 (wc.heap[gb146]? = some (.cells #[.int .i64 a0_0, .int .i64 a0_1, .int .i64 a0_2, .int .i64 a0_3, .int .i64 a0_4, (.slice A0_5 l0_5.length c0_5)] 28 (0, 0))) ∧ Aside0 (wc.heap[gb147]? = some (.cells #[.int .i64 a1_0, .int .i64 a1_1, .int .i64 a1_2, .int .i64 a1_3, .int .i64 a1_4] 106 (0, 0))) ∧ Aside0 (Below w.heap.size w wc))
       case first =>
        have H := HC64.out; clear HC64
        by_cases c65 : a1_2 < 0
        ·rw [if_pos c65] at H
         have c65b0 : decide (a1_2 < 0) = true := decide_eq_true c65; clear c65
         (first | rw [c65b0] | (simp only [i64_w, i32_w]; rw [c65b0]) | skip)
         have H' := Aside0.mk H; clear H; have hnb66 := NB147_146.out; have hnc66 := NB146_147.out
         have hcz67 := fun i => blk_cell BK147.out i
         have hfz67 := fun i => blk_frozen BK147.out i
         go_wp2
         go_meet
         case rel => exact ⟨_, (true), eqA, H', ⟨by have := HJ3.out; have := HJ12.out; first | omega | exact Nat.le_refl _⟩, ⟨bkA BK146.out⟩, ⟨bkA BK147.out⟩, ⟨blA HB.out⟩⟩
        ·rw [if_neg c65] at H
         have c65b0 : decide (a1_2 < 0) = false := decide_eq_false c65; clear c65
         (first | rw [c65b0] | (simp only [i64_w, i32_w]; rw [c65b0]) | skip)
         by_cases c68 : a1_2 ≥ a2
         ·rw [if_pos c68] at H
          have c68b0 : decide (a2 ≤ a1_2) = true := decide_eq_true c68; clear c68; have H' := Aside0.mk H; clear H; have hnb69 := NB147_146.out; have hnc69 := NB146_147.out
          have hcz70 := fun i => blk_cell BK147.out i
          have hfz70 := fun i => blk_frozen BK147.out i
          go_wp2
          go_meet
          case rel => exact ⟨_, (true), eqA, H', ⟨by have := HJ3.out; have := HJ12.out; first | omega | exact Nat.le_refl _⟩, ⟨bkA BK146.out⟩, ⟨bkA BK147.out⟩, ⟨blA HB.out⟩⟩
         ·rw [if_neg c68] at H
          have c68b0 : decide (a2 ≤ a1_2) = false := decide_eq_false c68; clear c68; replace H := Option.bind_eq_some_iff.mp H; obtain ⟨t153, A710, H⟩ := H
          (try dsimp only at H)
          have A71 := Aside0.mk A710; clear A710
          by_cases c72 : t153 = true
          ·subst c72
           have H1 : (if a1_3 < 0 then (steepleref25_System_Gate.j2 kj12 a2 true a0_0 a0_1 a0_2 a0_3 a0_4 l0_5 a1_0 a1_1 a1_2 a1_3 a1_4) else (steepleref25_System_Gate.j2 kj12 a2 (decide (a1_3 ≥ a2)) a0_0 a0_1 a0_2 a0_3 a0_4 l0_5 a1_0 a1_1 a1_2 a1_3 a1_4)) = some r := by rw [if_pos rfl] at H; exact H
           clear H; have H := H1; clear H1
           by_cases c73 : a1_3 < 0
           ·rw [if_pos c73] at H
            have c73b0 : decide (a1_3 < 0) = true := decide_eq_true c73; clear c73; have H' := Aside0.mk H; clear H; have hnb74 := NB147_146.out; have hnc74 := NB146_147.out
            have hcz75 := fun i => blk_cell BK147.out i
            have hfz75 := fun i => blk_frozen BK147.out i
            go_wp2_with (first | (go_at_call 89; (with_reducible refine (steepleref25_two.calls a1_0 true _ A71.out).mono ?_); rintro e w' ⟨rfl, ⟨nd, rfl⟩⟩))
            go_meet
            case rel => exact ⟨_, (true), eqA, H', ⟨by have := HJ3.out; have := HJ12.out; first | omega | exact Nat.le_refl _⟩, ⟨bkA BK146.out⟩, ⟨bkA BK147.out⟩, ⟨blA HB.out⟩⟩
           ·rw [if_neg c73] at H
            have c73b0 : decide (a1_3 < 0) = false := decide_eq_false c73; clear c73; have H' := Aside0.mk H; clear H; have hnb76 := NB147_146.out; have hnc76 := NB146_147.out
            have hcz77 := fun i => blk_cell BK147.out i
            have hfz77 := fun i => blk_frozen BK147.out i
            go_wp2_with (first | (go_at_call 89; (with_reducible refine (steepleref25_two.calls a1_0 true _ A71.out).mono ?_); rintro e w' ⟨rfl, ⟨nd, rfl⟩⟩))
            go_meet
            case rel => exact ⟨_, (decide (a1_3 ≥ a2)), eqA, H', ⟨by have := HJ3.out; have := HJ12.out; first | omega | exact Nat.le_refl _⟩, ⟨bkA BK146.out⟩, ⟨bkA BK147.out⟩, ⟨blA HB.out⟩⟩
          ·replace c72 := Bool.eq_false_iff.mpr c72; subst c72
           have H1 : (steepleref25_System_Gate.j2 kj12 a2 false a0_0 a0_1 a0_2 a0_3 a0_4 l0_5 a1_0 a1_1 a1_2 a1_3 a1_4) = some r := by rw [if_neg (show ¬ (false = true) by decide)] at H; exact H
           clear H; have H := H1; clear H1; have H' := Aside0.mk H; clear H; have hnb78 := NB147_146.out; have hnc78 := NB146_147.out
           have hcz79 := fun i => blk_cell BK147.out i
           have hfz79 := fun i => blk_frozen BK147.out i
           go_wp2_with (first | (go_at_call 89; (with_reducible refine (steepleref25_two.calls a1_0 false _ A71.out).mono ?_); rintro e w' ⟨rfl, ⟨nd, rfl⟩⟩))
           go_meet
           case rel => exact ⟨_, (false), eqA, H', ⟨by have := HJ3.out; have := HJ12.out; first | omega | exact Nat.le_refl _⟩, ⟨bkA BK146.out⟩, ⟨bkA BK147.out⟩, ⟨blA HB.out⟩⟩
       case rest =>
        clear HC64; (try clear c1); (try clear c2); (try clear p2); (try clear c3); (try clear c4); (try clear c5); (try clear c6); (try clear c7); (try clear c7b0); (try clear c8); (try clear c10); (try clear c12); (try clear c15); (try clear c16); (try clear c16b0); (try clear c16b1); (try clear c17); (try clear c17b0); (try clear c17b1); (try clear c19); (try clear c20); (try clear c22); (try clear c22b0); (try clear c22b1); (try clear c23); (try clear c25); (try clear c27); (try clear c30); (try clear c31); (try clear c33); (try clear c33b0); (try clear c33b1); (try clear c34); (try clear c36); (try clear c38); (try clear c38b0); (try clear c38b1); (try clear c39); (try clear c39b0); (try clear c39b1); (try clear c40); (try clear c40b0); (try clear c40b1); (try clear c42); (try clear c43); (try clear c45); (try clear c45b0); (try clear c45b1); (try clear c46); (try clear c48); (try clear c50); (try clear c53); (try clear c54); (try clear c56); (try clear c56b0); (try clear c56b1); (try clear c57); (try clear c59); (try clear c61); (try clear c63); (try clear c65); (try clear c65b0); (try clear c66); (try clear c68); (try clear c68b0); (try clear c69); (try clear c72); (try clear c73); (try clear c73b0); (try clear c74); (try clear c76); (try clear c78); (try clear hcz11); (try clear hcz21); (try clear hcz24); (try clear hcz26); (try clear hcz28); (try clear hcz32); (try clear hcz35); (try clear hcz37); (try clear hcz44); (try clear hcz47); (try clear hcz49); (try clear hcz51); (try clear hcz55); (try clear hcz58); (try clear hcz60); (try clear hcz62); (try clear hcz67); (try clear hcz70); (try clear hcz75); (try clear hcz77); (try clear hcz79); (try clear hcz9); (try clear hfz11); (try clear hfz21); (try clear hfz24); (try clear hfz26); (try clear hfz28); (try clear hfz32); (try clear hfz35); (try clear hfz37); (try clear hfz44); (try clear hfz47); (try clear hfz49); (try clear hfz51); (try clear hfz55); (try clear hfz58); (try clear hfz60); (try clear hfz62); (try clear hfz67); (try clear hfz70); (try clear hfz75); (try clear hfz77); (try clear hfz79); (try clear hfz9); (try clear p2); obtain ⟨kq, x74_63, rfl, HA, HJ63, BK146, BK147, HB⟩ := hcut
        cases kq with
        | zero => exact absurd HA.out (by simp [steepleref25_System_Gate.j2])
        | succ kj63 =>
         have H := HA.out; clear HA
         simp only [steepleref25_System_Gate.j2] at H
         by_cases c80 : x74_63 = true
         ·subst c80
          have H1 : (some 4) = some r := by rw [if_pos rfl] at H; exact H
          clear H; have H := H1; clear H1; obtain rfl := Option.some.inj H
          go_wp2
          go_ret
          exact ⟨by first | rfl | (simp [errW_none, errW_some] <;> rfl) | (simp [*, errW_none, errW_some] <;> rfl), blA HB.out⟩
         ·replace c80 := Bool.eq_false_iff.mpr c80; subst c80
          have H1 : ((steepleref25_shifts.f a1_0).bind fun t154 => (if t154 = true then ((steepleref18_Fits.f kj63 (wrap64 (a1_0 - 3)) a0_0 a1_4).bind fun t155 => (steepleref25_System_Gate.j3 kj63 a2 (!t155) a0_0 a0_1 a0_2 a0_3 a0_4 l0_5 a1_0 a1_1 a1_2 a1_3 a1_4)) else (steepleref25_System_Gate.j3 kj63 a2 false a0_0 a0_1 a0_2 a0_3 a0_4 l0_5 a1_0 a1_1 a1_2 a1_3 a1_4))) = some r := by rw [if_neg (show ¬ (false = true) by decide)] at H; exact H
          clear H; have H := H1; clear H1; have HC81 := Aside0.mk H; clear H
          go_upto_region 7 with (fail)
          go_cut [88] (fun v88 wc => ∃ (kq : Nat) (x88_80 : Bool), v88 = .bool x88_80 ∧ Aside0 (steepleref25_System_Gate.j3 kq a2 x88_80 a0_0 a0_1 a0_2 a0_3 a0_4 l0_5 a1_0 a1_1 a1_2 a1_3 a1_4 = some r) ∧ Aside0 (kq ≤ kj63) ∧ Aside0 (wc.heap[gb146]? = some (.cells #[.int .i64 a0_0, .int .i64 a0_1, .int .i64 a0_2, .int .i64 a0_3, .int .i64 a0_4, (.slice A0_5 l0_5.length c0_5)] 28 (0, 0))) ∧ Aside0 (wc.heap[gb147]? = some (.cells #[.int .i64 a1_0, .int .i64 a1_1, .int .i64 a1_2, .int .i64 a1_3, .int .i64 a1_4] 106 (0, 0))) ∧ Aside0 (Below w.heap.size w wc))
          case first =>
           have H := HC81.out; clear HC81; replace H := Option.bind_eq_some_iff.mp H; obtain ⟨t154, A820, H⟩ := H
           (try dsimp only at H)
           have A82 := Aside0.mk A820; clear A820
           by_cases c83 : t154 = true
           ·subst c83
            have H1 : ((steepleref18_Fits.f kj63 (wrap64 (a1_0 - 3)) a0_0 a1_4).bind fun t155 => (steepleref25_System_Gate.j3 kj63 a2 (!t155) a0_0 a0_1 a0_2 a0_3 a0_4 l0_5 a1_0 a1_1 a1_2 a1_3 a1_4)) = some r := by rw [if_pos rfl] at H; exact H
            clear H; have H := H1; clear H1; replace H := Option.bind_eq_some_iff.mp H; obtain ⟨t155, A840, H⟩ := H; replace H : (steepleref25_System_Gate.j3 kj63 a2 (!t155) a0_0 a0_1 a0_2 a0_3 a0_4 l0_5 a1_0 a1_1 a1_2 a1_3 a1_4) = some r := H; have A84 := Aside0.mk A840; clear A840; have H' := Aside0.mk H; clear H; have hnb85 := NB147_146.out; have hnc85 := NB146_147.out
            have hcz86 := fun i => blk_cell BK147.out i
            have hfz86 := fun i => blk_frozen BK147.out i
            go_wp2_with (first | ((with_reducible refine gate_callee (f := 90) rfl ?_); refine goesL_ (some 77) rfl rfl Try.func90 (by kernel_rfl) rfl #[.int .i64 a1_0] rfl gsA ?_; (with_reducible refine (steepleref25_shifts.calls a1_0 true _ A82.out).mono ?_); rintro e w' ⟨rfl, ⟨nd, rfl⟩⟩; refine ⟨_, rfl, ?_⟩; have hcz87 := fun i => blk_cell BK146.out i; have hfz87 := fun i => blk_frozen BK146.out i; ) | (go_at_call 56; (with_reducible refine (steepleref18_Fits.calls kj63 (wrap64 (a1_0 - 3)) a0_0 a1_4 t155 _ A84.out).mono ?_); rintro e w' ⟨rfl, ⟨nd, rfl⟩⟩))
            go_meet
            case rel => exact ⟨_, (!t155), eqA, H', ⟨by have := HJ3.out; have := HJ12.out; have := HJ63.out; first | omega | exact Nat.le_refl _⟩, ⟨bkA BK146.out⟩, ⟨bkA BK147.out⟩, ⟨blA HB.out⟩⟩
           ·replace c83 := Bool.eq_false_iff.mpr c83; subst c83
            have H1 : (steepleref25_System_Gate.j3 kj63 a2 false a0_0 a0_1 a0_2 a0_3 a0_4 l0_5 a1_0 a1_1 a1_2 a1_3 a1_4) = some r := by rw [if_neg (show ¬ (false = true) by decide)] at H; exact H
            clear H; have H := H1; clear H1; have H' := Aside0.mk H; clear H; have hnb88 := NB147_146.out; have hnc88 := NB146_147.out
            have hcz89 := fun i => blk_cell BK147.out i
            have hfz89 := fun i => blk_frozen BK147.out i
            go_wp2_with (first | ((with_reducible refine gate_callee (f := 90) rfl ?_); refine goesL_ (some 77) rfl rfl Try.func90 (by kernel_rfl) rfl #[.int .i64 a1_0] rfl gsA ?_; (with_reducible refine (steepleref25_shifts.calls a1_0 false _ A82.out).mono ?_); rintro e w' ⟨rfl, ⟨nd, rfl⟩⟩; refine ⟨_, rfl, ?_⟩))
            go_meet
            case rel => exact ⟨_, (false), eqA, H', ⟨by have := HJ3.out; have := HJ12.out; have := HJ63.out; first | omega | exact Nat.le_refl _⟩, ⟨bkA BK146.out⟩, ⟨bkA BK147.out⟩, ⟨blA HB.out⟩⟩
          case rest =>
           clear HC81; (try clear c1); (try clear c2); (try clear p2); (try clear c3); (try clear c4); (try clear c5); (try clear c6); (try clear p6); (try clear c7); (try clear c7b0); (try clear c8); (try clear c9); (try clear c10); (try clear c12); (try clear c15); (try clear c16); (try clear c16b0); (try clear c16b1); (try clear c17); (try clear c17b0); (try clear c17b1); (try clear c19); (try clear c20); (try clear c22); (try clear c22b0); (try clear c22b1); (try clear c23); (try clear c25); (try clear c27); (try clear c30); (try clear c31); (try clear c33); (try clear c33b0); (try clear c33b1); (try clear c34); (try clear c36); (try clear c38); (try clear c38b0); (try clear c38b1); (try clear c39); (try clear c39b0); (try clear c39b1); (try clear c40); (try clear c40b0); (try clear c40b1); (try clear c42); (try clear c43); (try clear c45); (try clear c45b0); (try clear c45b1); (try clear c46); (try clear c48); (try clear c50); (try clear c53); (try clear c54); (try clear c56); (try clear c56b0); (try clear c56b1); (try clear c57); (try clear c59); (try clear c61); (try clear c63); (try clear p64); (try clear c65); (try clear c65b0); (try clear c66); (try clear c68); (try clear c68b0); (try clear c69); (try clear c72); (try clear c73); (try clear c73b0); (try clear c74); (try clear c76); (try clear c78); (try clear c80); (try clear c83); (try clear c85); (try clear c88); (try clear hcz11); (try clear hcz21); (try clear hcz24); (try clear hcz26); (try clear hcz28); (try clear hcz32); (try clear hcz35); (try clear hcz37); (try clear hcz44); (try clear hcz47); (try clear hcz49); (try clear hcz51); (try clear hcz55); (try clear hcz58); (try clear hcz60); (try clear hcz62); (try clear hcz67); (try clear hcz70); (try clear hcz75); (try clear hcz77); (try clear hcz79); (try clear hcz86); (try clear hcz87); (try clear hcz89); (try clear hcz9); (try clear hfz11); (try clear hfz21); (try clear hfz24); (try clear hfz26); (try clear hfz28); (try clear hfz32); (try clear hfz35); (try clear hfz37); (try clear hfz44); (try clear hfz47); (try clear hfz49); (try clear hfz51); (try clear hfz55); (try clear hfz58); (try clear hfz60); (try clear hfz62); (try clear hfz67); (try clear hfz70); (try clear hfz75); (try clear hfz77); (try clear hfz79); (try clear hfz86); (try clear hfz87); (try clear hfz89); (try clear hfz9); (try clear p2); obtain ⟨kq, x88_80, rfl, HA, HJ80, BK146, BK147, HB⟩ := hcut
           cases kq with
           | zero => exact absurd HA.out (by simp [steepleref25_System_Gate.j3])
           | succ kj80 =>
            have H := HA.out; clear HA
            simp only [steepleref25_System_Gate.j3] at H
            by_cases c90 : x88_80 = true
            ·subst c90
             have H1 : (some 1) = some r := by rw [if_pos rfl] at H; exact H
             clear H; have H := H1; clear H1; obtain rfl := Option.some.inj H
             go_wp2
             go_ret
             exact ⟨by first | rfl | (simp [errW_none, errW_some] <;> rfl) | (simp [*, errW_none, errW_some] <;> rfl), blA HB.out⟩
            ·replace c90 := Bool.eq_false_iff.mpr c90; subst c90
             have H1 : (if a1_0 = 8 then (if a1_0 = 7 then (steepleref25_System_Gate.j4 kj80 a2 (a1_4 != (wrap64 (a2 + 1))) a0_0 a0_1 a0_2 a0_3 a0_4 l0_5 a1_0 a1_1 a1_2 a1_3 a1_4) else (steepleref25_System_Gate.j4 kj80 a2 false a0_0 a0_1 a0_2 a0_3 a0_4 l0_5 a1_0 a1_1 a1_2 a1_3 a1_4)) else (if a1_1 = a2 then (if a1_0 = 7 then (steepleref25_System_Gate.j4 kj80 a2 (a1_4 != (wrap64 (a2 + 1))) a0_0 a0_1 a0_2 a0_3 a0_4 l0_5 a1_0 a1_1 a1_2 a1_3 a1_4) else (steepleref25_System_Gate.j4 kj80 a2 false a0_0 a0_1 a0_2 a0_3 a0_4 l0_5 a1_0 a1_1 a1_2 a1_3 a1_4)) else (steepleref25_System_Gate.j4 kj80 a2 true a0_0 a0_1 a0_2 a0_3 a0_4 l0_5 a1_0 a1_1 a1_2 a1_3 a1_4))) = some r := by rw [if_neg (show ¬ (false = true) by decide)] at H; exact H
             clear H; have H := H1; clear H1; have HC91 := Aside0.mk H; clear H
             go_upto_region 9 with (fail)
             go_cut [109] (fun v109 wc => ∃ (kq : Nat) (x109_90 : Bool), v109 = .bool x109_90 ∧ Aside0 (steepleref25_System_Gate.j4 kq a2 x109_90 a0_0 a0_1 a0_2 a0_3 a0_4 l0_5 a1_0 a1_1 a1_2 a1_3 a1_4 = some r) ∧ Aside0 (kq ≤ kj80) ∧ Aside0 (wc.heap[gb146]? = some (.cells #[.int .i64 a0_0, .int .i64 a0_1, .int .i64 a0_2, .int .i64 a0_3, .int .i64 a0_4, (.slice A0_5 l0_5.length c0_5)] 28 (0, 0))) ∧ Aside0 (wc.heap[gb147]? = some (.cells #[.int .i64 a1_0, .int .i64 a1_1, .int .i64 a1_2, .int .i64 a1_3, .int .i64 a1_4] 106 (0, 0))) ∧ Aside0 (Below w.heap.size w wc))
             case first =>
              have H := HC91.out; clear HC91
              by_cases c92 : a1_0 = 8
              ·rw [if_pos c92] at H
               have c92b0 : (a1_0 == 8) = true := beq_iff_eq.mpr c92; have c92b1 : (a1_0 != 8) = false := bne_eq_false_iff_eq.mpr c92; clear c92
               (first | rw [c92b0] | (simp only [i64_w, i32_w]; rw [c92b0]) | skip)
               by_cases c93 : a1_0 = 7
               ·rw [if_pos c93] at H
                have c93b0 : (a1_0 == 7) = true := beq_iff_eq.mpr c93; have c93b1 : (a1_0 != 7) = false := bne_eq_false_iff_eq.mpr c93; clear c93; have H' := Aside0.mk H; clear H; have hnb94 := NB147_146.out; have hnc94 := NB146_147.out
                have hcz95 := fun i => blk_cell BK147.out i
                have hfz95 := fun i => blk_frozen BK147.out i
                go_wp2
                go_meet
                case rel => exact ⟨_, ((a1_4 != (wrap64 (a2 + 1)))), eqA, H', ⟨by have := HJ3.out; have := HJ12.out; have := HJ63.out; have := HJ80.out; first | omega | exact Nat.le_refl _⟩, ⟨bkA BK146.out⟩, ⟨bkA BK147.out⟩, ⟨blA HB.out⟩⟩
               ·rw [if_neg c93] at H
                have c93b0 : (a1_0 == 7) = false := beq_eq_false_iff_ne.mpr c93; have c93b1 : (a1_0 != 7) = true := bne_iff_ne.mpr c93; have H' := Aside0.mk H; clear H; have hnb96 := NB147_146.out; have hnc96 := NB146_147.out
                have hcz97 := fun i => blk_cell BK147.out i
                have hfz97 := fun i => blk_frozen BK147.out i
                go_wp2
                go_meet
                case rel => exact ⟨_, (false), eqA, H', ⟨by have := HJ3.out; have := HJ12.out; have := HJ63.out; have := HJ80.out; first | omega | exact Nat.le_refl _⟩, ⟨bkA BK146.out⟩, ⟨bkA BK147.out⟩, ⟨blA HB.out⟩⟩
              ·rw [if_neg c92] at H
               have c92b0 : (a1_0 == 8) = false := beq_eq_false_iff_ne.mpr c92; have c92b1 : (a1_0 != 8) = true := bne_iff_ne.mpr c92
               (first | rw [c92b0] | (simp only [i64_w, i32_w]; rw [c92b0]) | skip)
               by_cases c98 : a1_1 = a2
               ·rw [if_pos c98] at H
                have c98b0 : (a1_1 == a2) = true := beq_iff_eq.mpr c98; have c98b1 : (a1_1 != a2) = false := bne_eq_false_iff_eq.mpr c98; clear c98
                by_cases c99 : a1_0 = 7
                ·rw [if_pos c99] at H
                 have c99b0 : (a1_0 == 7) = true := beq_iff_eq.mpr c99; have c99b1 : (a1_0 != 7) = false := bne_eq_false_iff_eq.mpr c99; clear c99; have H' := Aside0.mk H; clear H; have hnb100 := NB147_146.out; have hnc100 := NB146_147.out
                 have hcz101 := fun i => blk_cell BK147.out i
                 have hfz101 := fun i => blk_frozen BK147.out i
                 go_wp2
                 go_meet
                 case rel => exact ⟨_, ((a1_4 != (wrap64 (a2 + 1)))), eqA, H', ⟨by have := HJ3.out; have := HJ12.out; have := HJ63.out; have := HJ80.out; first | omega | exact Nat.le_refl _⟩, ⟨bkA BK146.out⟩, ⟨bkA BK147.out⟩, ⟨blA HB.out⟩⟩
                ·rw [if_neg c99] at H
                 have c99b0 : (a1_0 == 7) = false := beq_eq_false_iff_ne.mpr c99; have c99b1 : (a1_0 != 7) = true := bne_iff_ne.mpr c99; have H' := Aside0.mk H; clear H; have hnb102 := NB147_146.out; have hnc102 := NB146_147.out
                 have hcz103 := fun i => blk_cell BK147.out i
                 have hfz103 := fun i => blk_frozen BK147.out i
                 go_wp2
                 go_meet
                 case rel => exact ⟨_, (false), eqA, H', ⟨by have := HJ3.out; have := HJ12.out; have := HJ63.out; have := HJ80.out; first | omega | exact Nat.le_refl _⟩, ⟨bkA BK146.out⟩, ⟨bkA BK147.out⟩, ⟨blA HB.out⟩⟩
               ·rw [if_neg c98] at H
                have c98b0 : (a1_1 == a2) = false := beq_eq_false_iff_ne.mpr c98; have c98b1 : (a1_1 != a2) = true := bne_iff_ne.mpr c98; have H' := Aside0.mk H; clear H; have hnb104 := NB147_146.out; have hnc104 := NB146_147.out
                have hcz105 := fun i => blk_cell BK147.out i
                have hfz105 := fun i => blk_frozen BK147.out i
                go_wp2
                go_meet
                case rel => exact ⟨_, (true), eqA, H', ⟨by have := HJ3.out; have := HJ12.out; have := HJ63.out; have := HJ80.out; first | omega | exact Nat.le_refl _⟩, ⟨bkA BK146.out⟩, ⟨bkA BK147.out⟩, ⟨blA HB.out⟩⟩
             case rest =>
              clear HC91; (try clear c1); (try clear c2); (try clear p2); (try clear c3); (try clear c4); (try clear c5); (try clear c6); (try clear p6); (try clear c7); (try clear c7b0); (try clear c8); (try clear c9); (try clear c10); (try clear c12); (try clear c15); (try clear c16); (try clear c16b0); (try clear c16b1); (try clear c17); (try clear c17b0); (try clear c17b1); (try clear c19); (try clear c20); (try clear c22); (try clear c22b0); (try clear c22b1); (try clear c23); (try clear c25); (try clear c27); (try clear c30); (try clear c31); (try clear c33); (try clear c33b0); (try clear c33b1); (try clear c34); (try clear c36); (try clear c38); (try clear c38b0); (try clear c38b1); (try clear c39); (try clear c39b0); (try clear c39b1); (try clear c40); (try clear c40b0); (try clear c40b1); (try clear c42); (try clear c43); (try clear c45); (try clear c45b0); (try clear c45b1); (try clear c46); (try clear c48); (try clear c50); (try clear c53); (try clear c54); (try clear c56); (try clear c56b0); (try clear c56b1); (try clear c57); (try clear c59); (try clear c61); (try clear c63); (try clear p64); (try clear c65); (try clear c65b0); (try clear c66); (try clear c68); (try clear c68b0); (try clear c69); (try clear c72); (try clear c73); (try clear c73b0); (try clear c74); (try clear c76); (try clear c78); (try clear c80); (try clear c83); (try clear c85); (try clear c88); (try clear c90); (try clear c92); (try clear c92b0); (try clear c92b1); (try clear c93); (try clear c93b0); (try clear c93b1); (try clear c94); (try clear c96); (try clear c98); (try clear c98b0); (try clear c98b1); (try clear c99); (try clear c99b0); (try clear c99b1); (try clear c100); (try clear c102); (try clear c104); (try clear hcz101); (try clear hcz103); (try clear hcz105); (try clear hcz11); (try clear hcz21); (try clear hcz24); (try clear hcz26); (try clear hcz28); (try clear hcz32); (try clear hcz35); (try clear hcz37); (try clear hcz44); (try clear hcz47); (try clear hcz49); (try clear hcz51); (try clear hcz55); (try clear hcz58); (try clear hcz60); (try clear hcz62); (try clear hcz67); (try clear hcz70); (try clear hcz75); (try clear hcz77); (try clear hcz79); (try clear hcz86); (try clear hcz87); (try clear hcz89); (try clear hcz95); (try clear hcz97); (try clear hcz9); (try clear hfz101); (try clear hfz103); (try clear hfz105); (try clear hfz11); (try clear hfz21); (try clear hfz24); (try clear hfz26); (try clear hfz28); (try clear hfz32); (try clear hfz35); (try clear hfz37); (try clear hfz44); (try clear hfz47); (try clear hfz49); (try clear hfz51); (try clear hfz55); (try clear hfz58); (try clear hfz60); (try clear hfz62); (try clear hfz67); (try clear hfz70); (try clear hfz75); (try clear hfz77); (try clear hfz79); (try clear hfz86); (try clear hfz87); (try clear hfz89); (try clear hfz95); (try clear hfz97); (try clear hfz9); (try clear p2); (try clear p6); (try clear p64); obtain ⟨kq, x109_90, rfl, HA, HJ90, BK146, BK147, HB⟩ := hcut
              cases kq with
              | zero => exact absurd HA.out (by simp [steepleref25_System_Gate.j4])
              | succ kj90 =>
               have H := HA.out; clear HA
               simp only [steepleref25_System_Gate.j4] at H
               by_cases c106 : x109_90 = true
               ·subst c106
                have H1 : (some 3) = some r := by rw [if_pos rfl] at H; exact H
                clear H; have H := H1; clear H1; obtain rfl := Option.some.inj H
                go_wp2
                go_ret
                exact ⟨by first | rfl | (simp [errW_none, errW_some] <;> rfl) | (simp [*, errW_none, errW_some] <;> rfl), blA HB.out⟩
               ·replace c106 := Bool.eq_false_iff.mpr c106; subst c106
                have H1 : ((steepleref25_Makes.f a1_0 a1_1 a1_2 a1_3 a1_4).bind fun t156 => ((steepleref15_Two.f kj90 a0_2).bind fun t157 => (if (wrap64 (a2 + t156)) > t157 then (some 2) else (some 0)))) = some r := by rw [if_neg (show ¬ (false = true) by decide)] at H; exact H
                clear H; have H := H1; clear H1; replace H := Option.bind_eq_some_iff.mp H; obtain ⟨t156, A1070, H⟩ := H
                (try dsimp only at H)
                have A107 := Aside0.mk A1070; clear A1070; replace H := Option.bind_eq_some_iff.mp H; obtain ⟨t157, A1080, H⟩ := H
                (try dsimp only at H)
                have A108 := Aside0.mk A1080; clear A1080
                by_cases c109 : (wrap64 (a2 + t156)) > t157
                ·rw [if_pos c109] at H
                 have c109b0 : decide (t157 < (wrap64 (a2 + t156))) = true := decide_eq_true c109; clear c109; obtain rfl := Option.some.inj H
                 try go_wp2
                 have n0_ := Aside0.mk (blk_drew BK146.out); have n1_ := Aside0.mk (blk_drew BK147.out); have n2_ := Aside0.mk (below_drew1 HB.out); clear BK146; clear BK147; clear HB; have BK146 := n0_; have BK147 := n1_; have HB := n2_; clear n0_ n1_ n2_
                 refine start_ (n := 8) (S := fun w' => w'.cell? ⟨gb147, 0, none⟩ = some (.int .i64 a1_0) ∧ w'.cell? ⟨gb147, 1, none⟩ = some (.int .i64 a1_1) ∧ w'.cell? ⟨gb147, 2, none⟩ = some (.int .i64 a1_2) ∧ w'.cell? ⟨gb147, 3, none⟩ = some (.int .i64 a1_3) ∧ w'.cell? ⟨gb147, 4, none⟩ = some (.int .i64 a1_4) ∧ w'.cell? ⟨gb146, 0, none⟩ = some (.int .i64 a0_0) ∧ w'.cell? ⟨gb146, 1, none⟩ = some (.int .i64 a0_1) ∧ w'.cell? ⟨gb146, 2, none⟩ = some (.int .i64 a0_2) ∧ w'.cell? ⟨gb146, 3, none⟩ = some (.int .i64 a0_3) ∧ w'.cell? ⟨gb146, 4, none⟩ = some (.int .i64 a0_4) ∧ w'.cell? ⟨gb146, 5, none⟩ = some (.slice A0_5 l0_5.length c0_5)) (ds := []) #[false, false, false, false, false, false, false, false] (by kernel_rfl) rfl rfl ⟨(blk_cell BK147.out 0).trans rfl, (blk_cell BK147.out 1).trans rfl, (blk_cell BK147.out 2).trans rfl, (blk_cell BK147.out 3).trans rfl, (blk_cell BK147.out 4).trans rfl, (blk_cell BK146.out 0).trans rfl, (blk_cell BK146.out 1).trans rfl, (blk_cell BK146.out 2).trans rfl, (blk_cell BK146.out 3).trans rfl, (blk_cell BK146.out 4).trans rfl, (blk_cell BK146.out 5).trans rfl⟩ (fun hHeld => ?_); refine with_tabW steepleref25_System_Gate.tab11 steepleref25_System_Gate.bits11 (fun HT_ HW_ => ?_)
                 generalize wc.drew = w110 at BK146 BK147 HB hHeld ⊢
                 refine pureA 0 (some 110) HT_.out ?_
                 refine pureA 4 (some 114) HT_.out ?_
                 refine takeA 1 (some 111) rfl HT_.out HW_.out hHeld (Or.inl ⟨by rfl, by rintro w' ⟨s0, s1, s2, s3, s4, s5, s6, s7, s8, s9, s10⟩; go_simp; with_reducible rfl⟩) ?_
                 refine takeA 5 (some 115) rfl HT_.out HW_.out hHeld (Or.inl ⟨by rfl, by rintro w' ⟨s0, s1, s2, s3, s4, s5, s6, s7, s8, s9, s10⟩; go_simp; with_reducible rfl⟩) ?_
                 refine one_ (i := 2) (N := some 112) #[true, true, true, false, true, true, false, false] rfl rfl (one_of HT_.out (by kernel_rfl)) (by decide) (fun K hK => ?_)
                 refine goes_ Try.func60 (by kernel_rfl) rfl #[.agg #[.int .i64 a1_0, .int .i64 a1_1, .int .i64 a1_2, .int .i64 a1_3, .int .i64 a1_4]] (by rfl) rfl rfl gsA ?_
                 with_reducible refine (steepleref25_Makes.calls a1_0 a1_1 a1_2 a1_3 a1_4 t156 _ A107.out).mono ?_
                 rintro e w111 ⟨rfl, hb⟩
                 refine ⟨_, rfl, ?_⟩
                 have n0_ := Aside0.mk (blk_below (bkA BK146.out) hb); have n1_ := Aside0.mk (blk_below (bkA BK147.out) hb); have n2_ := Aside0.mk (below_step (blA HB.out) hb); clear BK146; clear BK147; clear HB; have BK146 := n0_; have BK147 := n1_; have HB := n2_; clear n0_ n1_ n2_
                 (try clear hb)
                 refine hK.out _ _ ⟨(blk_cell BK147.out 0).trans rfl, (blk_cell BK147.out 1).trans rfl, (blk_cell BK147.out 2).trans rfl, (blk_cell BK147.out 3).trans rfl, (blk_cell BK147.out 4).trans rfl, (blk_cell BK146.out 0).trans rfl, (blk_cell BK146.out 1).trans rfl, (blk_cell BK146.out 2).trans rfl, (blk_cell BK146.out 3).trans rfl, (blk_cell BK146.out 4).trans rfl, (blk_cell BK146.out 5).trans rfl⟩ (fun hHeld => ?_)
                 clear hK K
                 refine normA ?_
                 refine pureA 3 (some 113) HT_.out ?_
                 refine one_ (i := 6) (N := some 116) #[true, true, true, true, true, true, true, false] rfl rfl (one_of HT_.out (by kernel_rfl)) (by decide) (fun K hK => ?_)
                 refine goes_ Try.func32 (by kernel_rfl) rfl #[.int .i64 a0_2] (by rfl) rfl rfl gsA ?_
                 with_reducible refine (steepleref15_Two.calls kj90 a0_2 t157 _ A108.out).mono ?_
                 rintro e w' ⟨rfl, ⟨nd, rfl⟩⟩
                 refine ⟨_, rfl, ?_⟩
                 refine hK.out _ _ ⟨(blk_cell BK147.out 0).trans rfl, (blk_cell BK147.out 1).trans rfl, (blk_cell BK147.out 2).trans rfl, (blk_cell BK147.out 3).trans rfl, (blk_cell BK147.out 4).trans rfl, (blk_cell BK146.out 0).trans rfl, (blk_cell BK146.out 1).trans rfl, (blk_cell BK146.out 2).trans rfl, (blk_cell BK146.out 3).trans rfl, (blk_cell BK146.out 4).trans rfl, (blk_cell BK146.out 5).trans rfl⟩ (fun hHeld => ?_)
                 clear hK K
                 refine normA ?_
                 refine pureA 7 (some 117) HT_.out ?_
                 refine done_ (done_of HT_.out (by kernel_rfl)) ?_
                 try go_wp2
                 go_ret
                 exact ⟨by first | rfl | (simp [errW_none, errW_some] <;> rfl) | (simp [*, errW_none, errW_some] <;> rfl), blA HB.out⟩
                ·rw [if_neg c109] at H
                 have c109b0 : decide (t157 < (wrap64 (a2 + t156))) = false := decide_eq_false c109; clear c109; obtain rfl := Option.some.inj H
                 try go_wp2
                 have n0_ := Aside0.mk (blk_drew BK146.out); have n1_ := Aside0.mk (blk_drew BK147.out); have n2_ := Aside0.mk (below_drew1 HB.out); clear BK146; clear BK147; clear HB; have BK146 := n0_; have BK147 := n1_; have HB := n2_; clear n0_ n1_ n2_
                 refine start_ (n := 8) (S := fun w' => w'.cell? ⟨gb147, 0, none⟩ = some (.int .i64 a1_0) ∧ w'.cell? ⟨gb147, 1, none⟩ = some (.int .i64 a1_1) ∧ w'.cell? ⟨gb147, 2, none⟩ = some (.int .i64 a1_2) ∧ w'.cell? ⟨gb147, 3, none⟩ = some (.int .i64 a1_3) ∧ w'.cell? ⟨gb147, 4, none⟩ = some (.int .i64 a1_4) ∧ w'.cell? ⟨gb146, 0, none⟩ = some (.int .i64 a0_0) ∧ w'.cell? ⟨gb146, 1, none⟩ = some (.int .i64 a0_1) ∧ w'.cell? ⟨gb146, 2, none⟩ = some (.int .i64 a0_2) ∧ w'.cell? ⟨gb146, 3, none⟩ = some (.int .i64 a0_3) ∧ w'.cell? ⟨gb146, 4, none⟩ = some (.int .i64 a0_4) ∧ w'.cell? ⟨gb146, 5, none⟩ = some (.slice A0_5 l0_5.length c0_5)) (ds := []) #[false, false, false, false, false, false, false, false] (by kernel_rfl) rfl rfl ⟨(blk_cell BK147.out 0).trans rfl, (blk_cell BK147.out 1).trans rfl, (blk_cell BK147.out 2).trans rfl, (blk_cell BK147.out 3).trans rfl, (blk_cell BK147.out 4).trans rfl, (blk_cell BK146.out 0).trans rfl, (blk_cell BK146.out 1).trans rfl, (blk_cell BK146.out 2).trans rfl, (blk_cell BK146.out 3).trans rfl, (blk_cell BK146.out 4).trans rfl, (blk_cell BK146.out 5).trans rfl⟩ (fun hHeld => ?_); refine with_tabW steepleref25_System_Gate.tab11 steepleref25_System_Gate.bits11 (fun HT_ HW_ => ?_)
                 generalize wc.drew = w112 at BK146 BK147 HB hHeld ⊢
                 refine pureA 0 (some 110) HT_.out ?_
                 refine pureA 4 (some 114) HT_.out ?_
                 refine takeA 1 (some 111) rfl HT_.out HW_.out hHeld (Or.inl ⟨by rfl, by rintro w' ⟨s0, s1, s2, s3, s4, s5, s6, s7, s8, s9, s10⟩; go_simp; with_reducible rfl⟩) ?_
                 refine takeA 5 (some 115) rfl HT_.out HW_.out hHeld (Or.inl ⟨by rfl, by rintro w' ⟨s0, s1, s2, s3, s4, s5, s6, s7, s8, s9, s10⟩; go_simp; with_reducible rfl⟩) ?_
                 refine one_ (i := 2) (N := some 112) #[true, true, true, false, true, true, false, false] rfl rfl (one_of HT_.out (by kernel_rfl)) (by decide) (fun K hK => ?_)
                 refine goes_ Try.func60 (by kernel_rfl) rfl #[.agg #[.int .i64 a1_0, .int .i64 a1_1, .int .i64 a1_2, .int .i64 a1_3, .int .i64 a1_4]] (by rfl) rfl rfl gsA ?_
                 with_reducible refine (steepleref25_Makes.calls a1_0 a1_1 a1_2 a1_3 a1_4 t156 _ A107.out).mono ?_
                 rintro e w113 ⟨rfl, hb⟩
                 refine ⟨_, rfl, ?_⟩
                 have n0_ := Aside0.mk (blk_below (bkA BK146.out) hb); have n1_ := Aside0.mk (blk_below (bkA BK147.out) hb); have n2_ := Aside0.mk (below_step (blA HB.out) hb); clear BK146; clear BK147; clear HB; have BK146 := n0_; have BK147 := n1_; have HB := n2_; clear n0_ n1_ n2_
                 (try clear hb)
                 refine hK.out _ _ ⟨(blk_cell BK147.out 0).trans rfl, (blk_cell BK147.out 1).trans rfl, (blk_cell BK147.out 2).trans rfl, (blk_cell BK147.out 3).trans rfl, (blk_cell BK147.out 4).trans rfl, (blk_cell BK146.out 0).trans rfl, (blk_cell BK146.out 1).trans rfl, (blk_cell BK146.out 2).trans rfl, (blk_cell BK146.out 3).trans rfl, (blk_cell BK146.out 4).trans rfl, (blk_cell BK146.out 5).trans rfl⟩ (fun hHeld => ?_)
                 clear hK K
                 refine normA ?_
                 refine pureA 3 (some 113) HT_.out ?_
                 refine one_ (i := 6) (N := some 116) #[true, true, true, true, true, true, true, false] rfl rfl (one_of HT_.out (by kernel_rfl)) (by decide) (fun K hK => ?_)
                 refine goes_ Try.func32 (by kernel_rfl) rfl #[.int .i64 a0_2] (by rfl) rfl rfl gsA ?_
                 with_reducible refine (steepleref15_Two.calls kj90 a0_2 t157 _ A108.out).mono ?_
                 rintro e w' ⟨rfl, ⟨nd, rfl⟩⟩
                 refine ⟨_, rfl, ?_⟩
                 refine hK.out _ _ ⟨(blk_cell BK147.out 0).trans rfl, (blk_cell BK147.out 1).trans rfl, (blk_cell BK147.out 2).trans rfl, (blk_cell BK147.out 3).trans rfl, (blk_cell BK147.out 4).trans rfl, (blk_cell BK146.out 0).trans rfl, (blk_cell BK146.out 1).trans rfl, (blk_cell BK146.out 2).trans rfl, (blk_cell BK146.out 3).trans rfl, (blk_cell BK146.out 4).trans rfl, (blk_cell BK146.out 5).trans rfl⟩ (fun hHeld => ?_)
                 clear hK K
                 refine normA ?_
                 refine pureA 7 (some 117) HT_.out ?_
                 refine done_ (done_of HT_.out (by kernel_rfl)) ?_
                 try go_wp2
                 go_ret
                 exact ⟨by first | rfl | (simp [errW_none, errW_some] <;> rfl) | (simp [*, errW_none, errW_some] <;> rfl), blA HB.out⟩
end Go.Proofs.Ythiiodgpdoljoaa.PLc
namespace Go.Proofs.Ythiiodgpdoljoaa.PLc
open Go.RowKit Go.Proofs.YthiiodgpdoljoaaW.PrintWords Go.Proofs.YthiiodgpdoljoaaW.PrintLast Go.Proofs.YthiiodgpdoljoaaW.PrintMore
attribute [local go_sem] max2_int min2_int max_two min_two max_three min_three max_four min_four   -- for this text's walks alone
set_option linter.unusedVariables false
set_option linter.unusedSimpArgs false
/-! ### steepleref25_Check: function 16 -/
mutual
def steepleref25_Check.j0 : Nat → Bool → Int → Int → Int → Int → Int → List (S106) → Option (Int)
 | 0, _, _, _, _, _, _, _ => none
 | k + 1, x43, x159000, x159001, x159002, x159003, x159004, x159005 => if x43 = true then (some 1) else (if x159003 > 64 then (steepleref25_Check.j1 k true x159000 x159001 x159002 x159003 x159004 x159005) else (if x159004 > 64 then (steepleref25_Check.j1 k true x159000 x159001 x159002 x159003 x159004 x159005) else ((steepleref15_Two.f k x159002).bind fun t159 => (steepleref25_Check.j1 k (decide ((wrap64 (x159003 + x159004)) > t159)) x159000 x159001 x159002 x159003 x159004 x159005))))
def steepleref25_Check.j1 : Nat → Bool → Int → Int → Int → Int → Int → List (S106) → Option (Int)
 | 0, _, _, _, _, _, _, _ => none
 | k + 1, x62, x159000, x159001, x159002, x159003, x159004, x159005 => if x62 = true then (some 1) else (if (x159005.length : Int) > 30 then (some 2) else (steepleref25_Check.l0 k (wrap64 (x159003 + x159004)) 0 x159000 x159001 x159002 x159003 x159004 x159005))
def steepleref25_Check.l0 : Nat → Int → Int → Int → Int → Int → Int → Int → List (S106) → Option (Int)
 | 0, _, _, _, _, _, _, _, _ => none
 | k + 1, x3, x4, x159000, x159001, x159002, x159003, x159004, x159005 => if x4 < (x159005.length : Int) then (if 0 ≤ x4 then ((steepleref25_System_Gate.f k x159000 x159001 x159002 x159003 x159004 x159005 ((rd_T106 x159005 x4).f0) ((rd_T106 x159005 x4).f1) ((rd_T106 x159005 x4).f2) ((rd_T106 x159005 x4).f3) ((rd_T106 x159005 x4).f4) x3).bind fun t161 => (if t161 = 0 then ((steepleref25_Makes.f ((rd_T106 x159005 x4).f0) ((rd_T106 x159005 x4).f1) ((rd_T106 x159005 x4).f2) ((rd_T106 x159005 x4).f3) ((rd_T106 x159005 x4).f4)).bind fun t163 => (steepleref25_Check.l0 k (wrap64 (x3 + t163)) (wrap64 (x4 + 1)) x159000 x159001 x159002 x159003 x159004 x159005)) else (some t161))) else (none)) else (some 0)
end
def steepleref25_Check.f (k : Nat) (a0_0 : Int) (a0_1 : Int) (a0_2 : Int) (a0_3 : Int) (a0_4 : Int) (l0_5 : List (S106)) : Option (Int) := if a0_0 < 0 then (steepleref25_Check.j0 k true a0_0 a0_1 a0_2 a0_3 a0_4 l0_5) else (if a0_0 > 5 then (steepleref25_Check.j0 k true a0_0 a0_1 a0_2 a0_3 a0_4 l0_5) else (if a0_1 < 0 then (steepleref25_Check.j0 k true a0_0 a0_1 a0_2 a0_3 a0_4 l0_5) else (if a0_1 > 4 then (steepleref25_Check.j0 k true a0_0 a0_1 a0_2 a0_3 a0_4 l0_5) else (if a0_2 < 0 then (steepleref25_Check.j0 k true a0_0 a0_1 a0_2 a0_3 a0_4 l0_5) else (if a0_2 > 6 then (steepleref25_Check.j0 k true a0_0 a0_1 a0_2 a0_3 a0_4 l0_5) else (if a0_3 < 0 then (steepleref25_Check.j0 k true a0_0 a0_1 a0_2 a0_3 a0_4 l0_5) else (steepleref25_Check.j0 k (decide (a0_4 < 0)) a0_0 a0_1 a0_2 a0_3 a0_4 l0_5)))))))
theorem steepleref25_Check.mono_l : ∀ k, (∀ y0 y1 y2 y3 y4 y5 y6, LeO (steepleref25_Check.j0 k y0 y1 y2 y3 y4 y5 y6) (steepleref25_Check.j0 (k + 1) y0 y1 y2 y3 y4 y5 y6)) ∧ (∀ y0 y1 y2 y3 y4 y5 y6, LeO (steepleref25_Check.j1 k y0 y1 y2 y3 y4 y5 y6) (steepleref25_Check.j1 (k + 1) y0 y1 y2 y3 y4 y5 y6)) ∧ (∀ y0 y1 y2 y3 y4 y5 y6 y7, LeO (steepleref25_Check.l0 k y0 y1 y2 y3 y4 y5 y6 y7) (steepleref25_Check.l0 (k + 1) y0 y1 y2 y3 y4 y5 y6 y7))
 | 0 => ⟨fun _ _ _ _ _ _ _ r h => by simp [steepleref25_Check.j0] at h, fun _ _ _ _ _ _ _ r h => by simp [steepleref25_Check.j1] at h, fun _ _ _ _ _ _ _ _ r h => by simp [steepleref25_Check.l0] at h⟩
 | k + 1 => by
  obtain ⟨ih0, ih1, ih2⟩ := steepleref25_Check.mono_l k
  refine ⟨?_, ?_, ?_⟩
  ·intro y0 y1 y2 y3 y4 y5 y6
   unfold steepleref25_Check.j0
   repeat' first
   | (with_reducible exact ih0 _ _ _ _ _ _ _)
   | (with_reducible exact ih1 _ _ _ _ _ _ _)
   | (with_reducible exact ih2 _ _ _ _ _ _ _ _)
   | (with_reducible exact steepleref15_Two.mono _ _)
   | (with_reducible exact steepleref25_System_Gate.mono _ _ _ _ _ _ _ _ _ _ _ _ _)
   | (with_reducible exact LeO.refl _)
   | (with_reducible exact LeO.none _)
   | (with_reducible refine LeO.ite ?_ ?_)
   | (with_reducible refine LeO.bind ?_ (fun _ => ?_))
   | exact ih0 _ _ _ _ _ _ _
   | exact ih1 _ _ _ _ _ _ _
   | exact ih2 _ _ _ _ _ _ _ _
   | exact steepleref15_Two.mono _ _
   | exact steepleref25_System_Gate.mono _ _ _ _ _ _ _ _ _ _ _ _ _
   | exact LeO.none _
   | refine LeO.ite ?_ ?_
   | refine LeO.bind ?_ (fun _ => ?_)
  ·intro y0 y1 y2 y3 y4 y5 y6
   unfold steepleref25_Check.j1
   repeat' first
   | (with_reducible exact ih0 _ _ _ _ _ _ _)
   | (with_reducible exact ih1 _ _ _ _ _ _ _)
   | (with_reducible exact ih2 _ _ _ _ _ _ _ _)
   | (with_reducible exact steepleref15_Two.mono _ _)
   | (with_reducible exact steepleref25_System_Gate.mono _ _ _ _ _ _ _ _ _ _ _ _ _)
   | (with_reducible exact LeO.refl _)
   | (with_reducible exact LeO.none _)
   | (with_reducible refine LeO.ite ?_ ?_)
   | (with_reducible refine LeO.bind ?_ (fun _ => ?_))
   | exact ih0 _ _ _ _ _ _ _
   | exact ih1 _ _ _ _ _ _ _
   | exact ih2 _ _ _ _ _ _ _ _
   | exact steepleref15_Two.mono _ _
   | exact steepleref25_System_Gate.mono _ _ _ _ _ _ _ _ _ _ _ _ _
   | exact LeO.none _
   | refine LeO.ite ?_ ?_
   | refine LeO.bind ?_ (fun _ => ?_)
  ·intro y0 y1 y2 y3 y4 y5 y6 y7
   unfold steepleref25_Check.l0
   repeat' first
   | (with_reducible exact ih0 _ _ _ _ _ _ _)
   | (with_reducible exact ih1 _ _ _ _ _ _ _)
   | (with_reducible exact ih2 _ _ _ _ _ _ _ _)
   | (with_reducible exact steepleref15_Two.mono _ _)
   | (with_reducible exact steepleref25_System_Gate.mono _ _ _ _ _ _ _ _ _ _ _ _ _)
   | (with_reducible exact LeO.refl _)
   | (with_reducible exact LeO.none _)
   | (with_reducible refine LeO.ite ?_ ?_)
   | (with_reducible refine LeO.bind ?_ (fun _ => ?_))
   | exact ih0 _ _ _ _ _ _ _
   | exact ih1 _ _ _ _ _ _ _
   | exact ih2 _ _ _ _ _ _ _ _
   | exact steepleref15_Two.mono _ _
   | exact steepleref25_System_Gate.mono _ _ _ _ _ _ _ _ _ _ _ _ _
   | exact LeO.none _
   | refine LeO.ite ?_ ?_
   | refine LeO.bind ?_ (fun _ => ?_)
theorem steepleref25_Check.mono : ∀ a0 a1 a2 a3 a4 a5 k, LeO (steepleref25_Check.f k a0 a1 a2 a3 a4 a5) (steepleref25_Check.f (k + 1) a0 a1 a2 a3 a4 a5) := by
 intro a0 a1 a2 a3 a4 a5 k
 obtain ⟨ih0, ih1, ih2⟩ := steepleref25_Check.mono_l k
 unfold steepleref25_Check.f
 repeat' first
   | (with_reducible exact ih0 _ _ _ _ _ _ _)
   | (with_reducible exact ih1 _ _ _ _ _ _ _)
   | (with_reducible exact ih2 _ _ _ _ _ _ _ _)
   | (with_reducible exact steepleref15_Two.mono _ _)
   | (with_reducible exact steepleref25_System_Gate.mono _ _ _ _ _ _ _ _ _ _ _ _ _)
   | (with_reducible exact LeO.refl _)
   | (with_reducible exact LeO.none _)
   | (with_reducible refine LeO.ite ?_ ?_)
   | (with_reducible refine LeO.bind ?_ (fun _ => ?_))
   | exact ih0 _ _ _ _ _ _ _
   | exact ih1 _ _ _ _ _ _ _
   | exact ih2 _ _ _ _ _ _ _ _
   | exact steepleref15_Two.mono _ _
   | exact steepleref25_System_Gate.mono _ _ _ _ _ _ _ _ _ _ _ _ _
   | exact LeO.none _
   | refine LeO.ite ?_ ?_
   | refine LeO.bind ?_ (fun _ => ?_)
def steepleref25_Check.T3 : Bool × List (List Nat × List Nat) := (true, [([], []), ([0], [0]), ([1], [1]), ([2], [2]), ([3], [3]), ([4, 3], [3, 4]), ([5, 3], [3, 5]), ([3, 6], [3, 6]), ([7, 3], [7]), ([8], [8]), ([9, 8], [8, 9]), ([8], [8]), ([11, 8], [8, 11]), ([10, 12, 8], [8, 10, 12]), ([8], [8]), ([14, 8], [8, 14]), ([15, 8, 8], [8, 15]), ([13, 16, 8], [8, 13, 16]), ([8, 17], [8, 17])])
def steepleref25_Check.B3 : List Nat := [0, 1, 3, 7, 15, 31, 63, 127, 255, 511, 1023, 511, 2559, 8191, 511, 16895, 49663, 131071, 262143]
theorem steepleref25_Check.tab3 : rtab .any (opsOf Try.f16 3) = steepleref25_Check.T3 := by kernel_rfl
theorem steepleref25_Check.bits3 : waitsOk steepleref25_Check.T3.2 steepleref25_Check.B3 = true := by kernel_rfl
def steepleref25_Check.T11 : Bool × List (List Nat × List Nat) := (true, [([], []), ([], []), ([1], [1]), ([], []), ([2, 3], [2, 3]), ([4], [4]), ([], []), ([0, 5, 6], [0, 5, 6]), ([7, 7, 0, 1, 2, 3, 4, 5, 6, 7], [7])])
def steepleref25_Check.B11 : List Nat := [0, 0, 2, 0, 14, 30, 0, 127, 255]
theorem steepleref25_Check.tab11 : rtab .any (opsOf Try.f16 11) = steepleref25_Check.T11 := by kernel_rfl
theorem steepleref25_Check.bits11 : waitsOk steepleref25_Check.T11.2 steepleref25_Check.B11 = true := by kernel_rfl
set_option maxHeartbeats 8000000 in
set_option maxRecDepth 100000 in
theorem steepleref25_Check.calls (k : Nat) (a0_0 : Int) (a0_1 : Int) (a0_2 : Int) (a0_3 : Int) (a0_4 : Int) (A0_5 : Option Addr) (c0_5 : Nat) (l0_5 : List (S106)) (r : Int) (w : World) (hr0_5 : Kd.C k106 w A0_5 l0_5.length l0_5) (hc0_5 : l0_5.length ≤ c0_5) (h : steepleref25_Check.f k a0_0 a0_1 a0_2 a0_3 a0_4 l0_5 = some r) :
  Calls Try.prog 16 #[.agg #[.int .i64 a0_0, .int .i64 a0_1, .int .i64 a0_2, .int .i64 a0_3, .int .i64 a0_4, .slice A0_5 l0_5.length c0_5]] w fun e w' => e = .returned (.int .i64 r) ∧ Below w.heap.size w w' := by
 have hu28 := Try.underlying28; have hu106 := Try.underlying106; have HR0_5 := Aside0.mk hr0_5; have HC0_5 := Aside0.mk hc0_5; clear hr0_5 hc0_5; have HB := Aside0.mk (Below.refl w.heap.size w)
 have H : (if a0_0 < 0 then (steepleref25_Check.j0 k true a0_0 a0_1 a0_2 a0_3 a0_4 l0_5) else (if a0_0 > 5 then (steepleref25_Check.j0 k true a0_0 a0_1 a0_2 a0_3 a0_4 l0_5) else (if a0_1 < 0 then (steepleref25_Check.j0 k true a0_0 a0_1 a0_2 a0_3 a0_4 l0_5) else (if a0_1 > 4 then (steepleref25_Check.j0 k true a0_0 a0_1 a0_2 a0_3 a0_4 l0_5) else (if a0_2 < 0 then (steepleref25_Check.j0 k true a0_0 a0_1 a0_2 a0_3 a0_4 l0_5) else (if a0_2 > 6 then (steepleref25_Check.j0 k true a0_0 a0_1 a0_2 a0_3 a0_4 l0_5) else (if a0_3 < 0 then (steepleref25_Check.j0 k true a0_0 a0_1 a0_2 a0_3 a0_4 l0_5) else (steepleref25_Check.j0 k (decide (a0_4 < 0)) a0_0 a0_1 a0_2 a0_3 a0_4 l0_5)))))))) = some r := h
 clear h; have HC2 := Aside0.mk H; clear H
 go_enter Try.func16, Try.ntmps16
 go_upto_region 1 with (first | ((with_reducible refine gate_dst (N := 1) rfl ?_); refine box_event ?hg (N := 1) ?hd (cs := #[.int .i64 a0_0, .int .i64 a0_1, .int .i64 a0_2, .int .i64 a0_3, .int .i64 a0_4, .slice A0_5 l0_5.length c0_5]) (t := 28) ?hr ?_; (case hd => rfl); (case hg => rfl); (case hr => first | (go_simp; done) | (go_simp; rfl)); intro gb158 hg w3 hbox hb; have n0_ := Aside0.mk (below_step (blA HB.out) hb); have n1_ := Aside0.mk (hbox); have n2_ := Aside0.mk ((by rw [hg]; exact (below_size (blA HB.out)) : w.heap.size ≤ gb158)); have n3_ := Aside0.mk ((by rw [hg]; exact (below_size (blA HB.out)) : w.heap.size ≤ gb158)); clear HB; have HB := n0_; have BK158 := n1_; have GW158 := n2_; have GE158 := n3_; clear n0_ n1_ n2_ n3_; clear hb hbox hg))
 (try simp only [Act.put, List.setIfInBounds_toArray, List.set_cons_zero, List.set_cons_succ])
 go_cut [43] (fun v43 wc => ∃ (kq : Nat) (x43_1 : Bool), v43 = .bool x43_1 ∧ Aside0 (steepleref25_Check.j0 kq x43_1 a0_0 a0_1 a0_2 a0_3 a0_4 l0_5 = some r) ∧ Aside0 (kq ≤ k) ∧ Aside0 (wc.heap[gb158]? = some (.cells #[.int .i64 a0_0, .int .i64 a0_1, .int .i64 a0_2, .int .i64 a0_3, .int .i64 a0_4, (.slice A0_5 l0_5.length c0_5)] 28 (0, 0))) ∧ Aside0 (Below w.heap.size w wc))
 case first =>
  have H := HC2.out; clear HC2
  by_cases c4 : a0_0 < 0
  ·rw [if_pos c4] at H
   have c4b0 : decide (a0_0 < 0) = true := decide_eq_true c4; clear c4
   (first | rw [c4b0] | (simp only [i64_w, i32_w]; rw [c4b0]) | skip)
   have H' := Aside0.mk H; clear H
   have hcz5 := fun i => blk_cell BK158.out i
   have hfz5 := fun i => blk_frozen BK158.out i
   go_wp2
   go_meet
   case rel => exact ⟨_, (true), eqA, H', ⟨omA⟩, ⟨bkA BK158.out⟩, ⟨blA HB.out⟩⟩
  ·rw [if_neg c4] at H
   have c4b0 : decide (a0_0 < 0) = false := decide_eq_false c4; clear c4
   (first | rw [c4b0] | (simp only [i64_w, i32_w]; rw [c4b0]) | skip)
   by_cases c6 : a0_0 > 5
   ·rw [if_pos c6] at H
    have c6b0 : decide (5 < a0_0) = true := decide_eq_true c6; clear c6; have H' := Aside0.mk H; clear H
    have hcz7 := fun i => blk_cell BK158.out i
    have hfz7 := fun i => blk_frozen BK158.out i
    go_wp2
    go_meet
    case rel => exact ⟨_, (true), eqA, H', ⟨omA⟩, ⟨bkA BK158.out⟩, ⟨blA HB.out⟩⟩
   ·rw [if_neg c6] at H
    have c6b0 : decide (5 < a0_0) = false := decide_eq_false c6; clear c6
    by_cases c8 : a0_1 < 0
    ·rw [if_pos c8] at H
     have c8b0 : decide (a0_1 < 0) = true := decide_eq_true c8; clear c8; have H' := Aside0.mk H; clear H
     have hcz9 := fun i => blk_cell BK158.out i
     have hfz9 := fun i => blk_frozen BK158.out i
     go_wp2
     go_meet
     case rel => exact ⟨_, (true), eqA, H', ⟨omA⟩, ⟨bkA BK158.out⟩, ⟨blA HB.out⟩⟩
    ·rw [if_neg c8] at H
     have c8b0 : decide (a0_1 < 0) = false := decide_eq_false c8; clear c8
     by_cases c10 : a0_1 > 4
     ·rw [if_pos c10] at H
      have c10b0 : decide (4 < a0_1) = true := decide_eq_true c10; clear c10; have H' := Aside0.mk H; clear H
      have hcz11 := fun i => blk_cell BK158.out i
      have hfz11 := fun i => blk_frozen BK158.out i
      go_wp2
      go_meet
      case rel => exact ⟨_, (true), eqA, H', ⟨omA⟩, ⟨bkA BK158.out⟩, ⟨blA HB.out⟩⟩
     ·rw [if_neg c10] at H
      have c10b0 : decide (4 < a0_1) = false := decide_eq_false c10; clear c10
      by_cases c12 : a0_2 < 0
      ·rw [if_pos c12] at H
       have c12b0 : decide (a0_2 < 0) = true := decide_eq_true c12; clear c12; have H' := Aside0.mk H; clear H
       have hcz13 := fun i => blk_cell BK158.out i
       have hfz13 := fun i => blk_frozen BK158.out i
       go_wp2
       go_meet
       case rel => exact ⟨_, (true), eqA, H', ⟨omA⟩, ⟨bkA BK158.out⟩, ⟨blA HB.out⟩⟩
      ·rw [if_neg c12] at H
       have c12b0 : decide (a0_2 < 0) = false := decide_eq_false c12; clear c12
       by_cases c14 : a0_2 > 6
       ·rw [if_pos c14] at H
        have c14b0 : decide (6 < a0_2) = true := decide_eq_true c14; clear c14; have H' := Aside0.mk H; clear H
        have hcz15 := fun i => blk_cell BK158.out i
        have hfz15 := fun i => blk_frozen BK158.out i
        go_wp2
        go_meet
        case rel => exact ⟨_, (true), eqA, H', ⟨omA⟩, ⟨bkA BK158.out⟩, ⟨blA HB.out⟩⟩
       ·rw [if_neg c14] at H
        have c14b0 : decide (6 < a0_2) = false := decide_eq_false c14; clear c14
        by_cases c16 : a0_3 < 0
        ·rw [if_pos c16] at H
         have c16b0 : decide (a0_3 < 0) = true := decide_eq_true c16; clear c16; have H' := Aside0.mk H; clear H
         have hcz17 := fun i => blk_cell BK158.out i
         have hfz17 := fun i => blk_frozen BK158.out i
         go_wp2
         go_meet
         case rel => exact ⟨_, (true), eqA, H', ⟨omA⟩, ⟨bkA BK158.out⟩, ⟨blA HB.out⟩⟩
        ·rw [if_neg c16] at H
         have c16b0 : decide (a0_3 < 0) = false := decide_eq_false c16; clear c16; have H' := Aside0.mk H; clear H
         have hcz18 := fun i => blk_cell BK158.out i
         have hfz18 := fun i => blk_frozen BK158.out i
         go_wp2
         go_meet
         case rel => exact ⟨_, (decide (a0_4 < 0)), eqA, H', ⟨omA⟩, ⟨bkA BK158.out⟩, ⟨blA HB.out⟩⟩
 case rest =>
  clear HC2; (try clear c1); (try clear p2); (try clear c4); (try clear c4b0); (try clear c6); (try clear c6b0); (try clear c8); (try clear c8b0); (try clear c10); (try clear c10b0); (try clear c12); (try clear c12b0); (try clear c14); (try clear c14b0); (try clear c16); (try clear c16b0); (try clear hcz11); (try clear hcz13); (try clear hcz15); (try clear hcz17); (try clear hcz18); (try clear hcz5); (try clear hcz7); (try clear hcz9); (try clear hfz11); (try clear hfz13); (try clear hfz15); (try clear hfz17); (try clear hfz18); (try clear hfz5); (try clear hfz7); (try clear hfz9); obtain ⟨kq, x43_1, rfl, HA, HJ1, BK158, HB⟩ := hcut
  cases kq with
  | zero => exact absurd HA.out (by simp [steepleref25_Check.j0])
  | succ kj1 =>
   have H := HA.out; clear HA
   simp only [steepleref25_Check.j0] at H
   by_cases c19 : x43_1 = true
   ·subst c19
    have H1 : (some 1) = some r := by rw [if_pos rfl] at H; exact H
    clear H; have H := H1; clear H1; obtain rfl := Option.some.inj H
    go_wp2
    go_ret
    exact ⟨by first | rfl | (simp [errW_none, errW_some] <;> rfl) | (simp [*, errW_none, errW_some] <;> rfl), blA HB.out⟩
   ·replace c19 := Bool.eq_false_iff.mpr c19; subst c19
    have H1 : (if a0_3 > 64 then (steepleref25_Check.j1 kj1 true a0_0 a0_1 a0_2 a0_3 a0_4 l0_5) else (if a0_4 > 64 then (steepleref25_Check.j1 kj1 true a0_0 a0_1 a0_2 a0_3 a0_4 l0_5) else ((steepleref15_Two.f kj1 a0_2).bind fun t159 => (steepleref25_Check.j1 kj1 (decide ((wrap64 (a0_3 + a0_4)) > t159)) a0_0 a0_1 a0_2 a0_3 a0_4 l0_5)))) = some r := by rw [if_neg (show ¬ (false = true) by decide)] at H; exact H
    clear H; have H := H1; clear H1; have HC20 := Aside0.mk H; clear H
    go_upto_region 3 with (fail)
    go_cut [62] (fun v62 wc => ∃ (kq : Nat) (x62_19 : Bool), v62 = .bool x62_19 ∧ Aside0 (steepleref25_Check.j1 kq x62_19 a0_0 a0_1 a0_2 a0_3 a0_4 l0_5 = some r) ∧ Aside0 (kq ≤ kj1) ∧ Aside0 (wc.heap[gb158]? = some (.cells #[.int .i64 a0_0, .int .i64 a0_1, .int .i64 a0_2, .int .i64 a0_3, .int .i64 a0_4, (.slice A0_5 l0_5.length c0_5)] 28 (0, 0))) ∧ Aside0 (Below w.heap.size w wc))
    case first =>
     have H := HC20.out; clear HC20
     by_cases c21 : a0_3 > 64
     ·rw [if_pos c21] at H
      have c21b0 : decide (64 < a0_3) = true := decide_eq_true c21; clear c21
      (first | rw [c21b0] | (simp only [i64_w, i32_w]; rw [c21b0]) | skip)
      have H' := Aside0.mk H; clear H
      try go_wp2
      have n0_ := Aside0.mk (blk_drew BK158.out); have n1_ := Aside0.mk (below_drew1 HB.out); clear BK158; clear HB; have BK158 := n0_; have HB := n1_; clear n0_ n1_
      refine start_ (n := 19) (S := fun w' => w'.cell? ⟨gb158, 0, none⟩ = some (.int .i64 a0_0) ∧ w'.cell? ⟨gb158, 1, none⟩ = some (.int .i64 a0_1) ∧ w'.cell? ⟨gb158, 2, none⟩ = some (.int .i64 a0_2) ∧ w'.cell? ⟨gb158, 3, none⟩ = some (.int .i64 a0_3) ∧ w'.cell? ⟨gb158, 4, none⟩ = some (.int .i64 a0_4) ∧ w'.cell? ⟨gb158, 5, none⟩ = some (.slice A0_5 l0_5.length c0_5)) (ds := []) #[false, false, false, false, false, false, false, false, false, false, false, false, false, false, false, false, false, false, false] (by kernel_rfl) rfl rfl ⟨(blk_cell BK158.out 0).trans rfl, (blk_cell BK158.out 1).trans rfl, (blk_cell BK158.out 2).trans rfl, (blk_cell BK158.out 3).trans rfl, (blk_cell BK158.out 4).trans rfl, (blk_cell BK158.out 5).trans rfl⟩ (fun hHeld => ?_); refine with_tabW steepleref25_Check.tab3 steepleref25_Check.bits3 (fun HT_ HW_ => ?_)
      generalize wc.drew = w22 at BK158 HB hHeld ⊢
      refine pureA 0 (some 44) HT_.out ?_
      refine takeA 1 (some 45) rfl HT_.out HW_.out hHeld (Or.inl ⟨by rfl, by rintro w' ⟨s0, s1, s2, s3, s4, s5⟩; go_simp; with_reducible rfl⟩) ?_
      refine pureA 2 (some 46) HT_.out ?_
      refine pureA 3 (some 47) HT_.out ?_
      refine pure_ (i := 4) (N := some 48) (v := undef) (a' := ?_) #[true, true, true, true, true, false, false, false, false, false, false, false, false, false, false, false, false, false, false] rfl rfl (any_of HT_.out (by kernel_rfl)) (fun _ _ _ h => h) (Or.inr ⟨by rfl, rfl⟩) ?_ ?_
      rotate_left
      ·simp only [Act.put, List.setIfInBounds_toArray, List.set_cons_zero, List.set_cons_succ, i64_w, i32_w]
       rfl
      refine pure_ (i := 5) (N := some 49) (v := undef) (a' := ?_) #[true, true, true, true, true, true, false, false, false, false, false, false, false, false, false, false, false, false, false] rfl rfl (any_of HT_.out (by kernel_rfl)) (fun _ _ _ h => h) (Or.inr ⟨by rfl, rfl⟩) ?_ ?_
      rotate_left
      ·simp only [Act.put, List.setIfInBounds_toArray, List.set_cons_zero, List.set_cons_succ, i64_w, i32_w]
       rfl
      refine pure_ (i := 6) (N := some 50) (v := undef) (a' := ?_) #[true, true, true, true, true, true, true, false, false, false, false, false, false, false, false, false, false, false, false] rfl rfl (any_of HT_.out (by kernel_rfl)) (fun _ _ _ h => h) (Or.inr ⟨by rfl, rfl⟩) ?_ ?_
      rotate_left
      ·simp only [Act.put, List.setIfInBounds_toArray, List.set_cons_zero, List.set_cons_succ, i64_w, i32_w]
       rfl
      refine pureA 7 (some 51) HT_.out ?_
      refine pureA 8 (some 52) HT_.out ?_
      refine pure_ (i := 9) (N := some 53) (v := undef) (a' := ?_) #[true, true, true, true, true, true, true, true, true, true, false, false, false, false, false, false, false, false, false] rfl rfl (any_of HT_.out (by kernel_rfl)) (fun _ _ _ h => h) (Or.inr ⟨by rfl, rfl⟩) ?_ ?_
      rotate_left
      ·simp only [Act.put, List.setIfInBounds_toArray, List.set_cons_zero, List.set_cons_succ, i64_w, i32_w]
       rfl
      refine pure_ (i := 10) (N := some 54) (v := undef) (a' := ?_) #[true, true, true, true, true, true, true, true, true, true, true, false, false, false, false, false, false, false, false] rfl rfl (any_of HT_.out (by kernel_rfl)) (fun _ _ _ h => h) (Or.inr ⟨by rfl, rfl⟩) ?_ ?_
      rotate_left
      ·simp only [Act.put, List.setIfInBounds_toArray, List.set_cons_zero, List.set_cons_succ, i64_w, i32_w]
       rfl
      refine pure_ (i := 11) (N := some 55) (v := undef) (a' := ?_) #[true, true, true, true, true, true, true, true, true, true, true, true, false, false, false, false, false, false, false] rfl rfl (any_of HT_.out (by kernel_rfl)) (fun _ _ _ h => h) (Or.inr ⟨by rfl, rfl⟩) ?_ ?_
      rotate_left
      ·simp only [Act.put, List.setIfInBounds_toArray, List.set_cons_zero, List.set_cons_succ, i64_w, i32_w]
       rfl
      refine pure_ (i := 12) (N := some 56) (v := undef) (a' := ?_) #[true, true, true, true, true, true, true, true, true, true, true, true, true, false, false, false, false, false, false] rfl rfl (any_of HT_.out (by kernel_rfl)) (fun _ _ _ h => h) (Or.inr ⟨by rfl, rfl⟩) ?_ ?_
      rotate_left
      ·simp only [Act.put, List.setIfInBounds_toArray, List.set_cons_zero, List.set_cons_succ, i64_w, i32_w]
       rfl
      refine pure_ (i := 13) (N := some 57) (v := undef) (a' := ?_) #[true, true, true, true, true, true, true, true, true, true, true, true, true, true, false, false, false, false, false] rfl rfl (any_of HT_.out (by kernel_rfl)) (fun _ _ _ h => h) (Or.inr ⟨by rfl, rfl⟩) ?_ ?_
      rotate_left
      ·simp only [Act.put, List.setIfInBounds_toArray, List.set_cons_zero, List.set_cons_succ, i64_w, i32_w]
       rfl
      refine pure_ (i := 14) (N := some 58) (v := undef) (a' := ?_) #[true, true, true, true, true, true, true, true, true, true, true, true, true, true, true, false, false, false, false] rfl rfl (any_of HT_.out (by kernel_rfl)) (fun _ _ _ h => h) (Or.inr ⟨by rfl, rfl⟩) ?_ ?_
      rotate_left
      ·simp only [Act.put, List.setIfInBounds_toArray, List.set_cons_zero, List.set_cons_succ, i64_w, i32_w]
       rfl
      refine pure_ (i := 15) (N := some 59) (v := undef) (a' := ?_) #[true, true, true, true, true, true, true, true, true, true, true, true, true, true, true, true, false, false, false] rfl rfl (any_of HT_.out (by kernel_rfl)) (fun _ _ _ h => h) (Or.inr ⟨by rfl, rfl⟩) ?_ ?_
      rotate_left
      ·simp only [Act.put, List.setIfInBounds_toArray, List.set_cons_zero, List.set_cons_succ, i64_w, i32_w]
       rfl
      refine pure_ (i := 16) (N := some 60) (v := undef) (a' := ?_) #[true, true, true, true, true, true, true, true, true, true, true, true, true, true, true, true, true, false, false] rfl rfl (any_of HT_.out (by kernel_rfl)) (fun _ _ _ h => h) (Or.inr ⟨by rfl, rfl⟩) ?_ ?_
      rotate_left
      ·simp only [Act.put, List.setIfInBounds_toArray, List.set_cons_zero, List.set_cons_succ, i64_w, i32_w]
       rfl
      refine pure_ (i := 17) (N := some 61) (v := undef) (a' := ?_) #[true, true, true, true, true, true, true, true, true, true, true, true, true, true, true, true, true, true, false] rfl rfl (any_of HT_.out (by kernel_rfl)) (fun _ _ _ h => h) (Or.inr ⟨by rfl, rfl⟩) ?_ ?_
      rotate_left
      ·simp only [Act.put, List.setIfInBounds_toArray, List.set_cons_zero, List.set_cons_succ, i64_w, i32_w]
       rfl
      refine pureA 18 (some 62) HT_.out ?_
      refine done_ (done_of HT_.out (by kernel_rfl)) ?_
      try go_wp2
      go_meet
      case rel => exact ⟨_, (true), eqA, H', ⟨by have := HJ1.out; first | omega | exact Nat.le_refl _⟩, ⟨bkA BK158.out⟩, ⟨blA HB.out⟩⟩
     ·rw [if_neg c21] at H
      have c21b0 : decide (64 < a0_3) = false := decide_eq_false c21; clear c21
      (first | rw [c21b0] | (simp only [i64_w, i32_w]; rw [c21b0]) | skip)
      by_cases c23 : a0_4 > 64
      ·rw [if_pos c23] at H
       have c23b0 : decide (64 < a0_4) = true := decide_eq_true c23; clear c23; have H' := Aside0.mk H; clear H
       try go_wp2
       have n0_ := Aside0.mk (blk_drew BK158.out); have n1_ := Aside0.mk (below_drew1 HB.out); clear BK158; clear HB; have BK158 := n0_; have HB := n1_; clear n0_ n1_
       refine start_ (n := 19) (S := fun w' => w'.cell? ⟨gb158, 0, none⟩ = some (.int .i64 a0_0) ∧ w'.cell? ⟨gb158, 1, none⟩ = some (.int .i64 a0_1) ∧ w'.cell? ⟨gb158, 2, none⟩ = some (.int .i64 a0_2) ∧ w'.cell? ⟨gb158, 3, none⟩ = some (.int .i64 a0_3) ∧ w'.cell? ⟨gb158, 4, none⟩ = some (.int .i64 a0_4) ∧ w'.cell? ⟨gb158, 5, none⟩ = some (.slice A0_5 l0_5.length c0_5)) (ds := []) #[false, false, false, false, false, false, false, false, false, false, false, false, false, false, false, false, false, false, false] (by kernel_rfl) rfl rfl ⟨(blk_cell BK158.out 0).trans rfl, (blk_cell BK158.out 1).trans rfl, (blk_cell BK158.out 2).trans rfl, (blk_cell BK158.out 3).trans rfl, (blk_cell BK158.out 4).trans rfl, (blk_cell BK158.out 5).trans rfl⟩ (fun hHeld => ?_); refine with_tabW steepleref25_Check.tab3 steepleref25_Check.bits3 (fun HT_ HW_ => ?_)
       generalize wc.drew = w24 at BK158 HB hHeld ⊢
       refine pureA 0 (some 44) HT_.out ?_
       refine takeA 1 (some 45) rfl HT_.out HW_.out hHeld (Or.inl ⟨by rfl, by rintro w' ⟨s0, s1, s2, s3, s4, s5⟩; go_simp; with_reducible rfl⟩) ?_
       refine pureA 2 (some 46) HT_.out ?_
       refine pureA 3 (some 47) HT_.out ?_
       refine pureA 4 (some 48) HT_.out ?_
       refine takeA 5 (some 49) rfl HT_.out HW_.out hHeld (Or.inl ⟨by rfl, by rintro w' ⟨s0, s1, s2, s3, s4, s5⟩; go_simp; with_reducible rfl⟩) ?_
       refine pureA 6 (some 50) HT_.out ?_
       refine pureA 7 (some 51) HT_.out ?_
       refine pureA 8 (some 52) HT_.out ?_
       refine pure_ (i := 9) (N := some 53) (v := undef) (a' := ?_) #[true, true, true, true, true, true, true, true, true, true, false, false, false, false, false, false, false, false, false] rfl rfl (any_of HT_.out (by kernel_rfl)) (fun _ _ _ h => h) (Or.inr ⟨by rfl, rfl⟩) ?_ ?_
       rotate_left
       ·simp only [Act.put, List.setIfInBounds_toArray, List.set_cons_zero, List.set_cons_succ, i64_w, i32_w]
        rfl
       refine pure_ (i := 10) (N := some 54) (v := undef) (a' := ?_) #[true, true, true, true, true, true, true, true, true, true, true, false, false, false, false, false, false, false, false] rfl rfl (any_of HT_.out (by kernel_rfl)) (fun _ _ _ h => h) (Or.inr ⟨by rfl, rfl⟩) ?_ ?_
       rotate_left
       ·simp only [Act.put, List.setIfInBounds_toArray, List.set_cons_zero, List.set_cons_succ, i64_w, i32_w]
        rfl
       refine pure_ (i := 11) (N := some 55) (v := undef) (a' := ?_) #[true, true, true, true, true, true, true, true, true, true, true, true, false, false, false, false, false, false, false] rfl rfl (any_of HT_.out (by kernel_rfl)) (fun _ _ _ h => h) (Or.inr ⟨by rfl, rfl⟩) ?_ ?_
       rotate_left
       ·simp only [Act.put, List.setIfInBounds_toArray, List.set_cons_zero, List.set_cons_succ, i64_w, i32_w]
        rfl
       refine pure_ (i := 12) (N := some 56) (v := undef) (a' := ?_) #[true, true, true, true, true, true, true, true, true, true, true, true, true, false, false, false, false, false, false] rfl rfl (any_of HT_.out (by kernel_rfl)) (fun _ _ _ h => h) (Or.inr ⟨by rfl, rfl⟩) ?_ ?_
       rotate_left
       ·simp only [Act.put, List.setIfInBounds_toArray, List.set_cons_zero, List.set_cons_succ, i64_w, i32_w]
        rfl
       refine pure_ (i := 13) (N := some 57) (v := undef) (a' := ?_) #[true, true, true, true, true, true, true, true, true, true, true, true, true, true, false, false, false, false, false] rfl rfl (any_of HT_.out (by kernel_rfl)) (fun _ _ _ h => h) (Or.inr ⟨by rfl, rfl⟩) ?_ ?_
       rotate_left
       ·simp only [Act.put, List.setIfInBounds_toArray, List.set_cons_zero, List.set_cons_succ, i64_w, i32_w]
        rfl
       refine pure_ (i := 14) (N := some 58) (v := undef) (a' := ?_) #[true, true, true, true, true, true, true, true, true, true, true, true, true, true, true, false, false, false, false] rfl rfl (any_of HT_.out (by kernel_rfl)) (fun _ _ _ h => h) (Or.inr ⟨by rfl, rfl⟩) ?_ ?_
       rotate_left
       ·simp only [Act.put, List.setIfInBounds_toArray, List.set_cons_zero, List.set_cons_succ, i64_w, i32_w]
        rfl
       refine pure_ (i := 15) (N := some 59) (v := undef) (a' := ?_) #[true, true, true, true, true, true, true, true, true, true, true, true, true, true, true, true, false, false, false] rfl rfl (any_of HT_.out (by kernel_rfl)) (fun _ _ _ h => h) (Or.inr ⟨by rfl, rfl⟩) ?_ ?_
       rotate_left
       ·simp only [Act.put, List.setIfInBounds_toArray, List.set_cons_zero, List.set_cons_succ, i64_w, i32_w]
        rfl
       refine pure_ (i := 16) (N := some 60) (v := undef) (a' := ?_) #[true, true, true, true, true, true, true, true, true, true, true, true, true, true, true, true, true, false, false] rfl rfl (any_of HT_.out (by kernel_rfl)) (fun _ _ _ h => h) (Or.inr ⟨by rfl, rfl⟩) ?_ ?_
       rotate_left
       ·simp only [Act.put, List.setIfInBounds_toArray, List.set_cons_zero, List.set_cons_succ, i64_w, i32_w]
        rfl
       refine pure_ (i := 17) (N := some 61) (v := undef) (a' := ?_) #[true, true, true, true, true, true, true, true, true, true, true, true, true, true, true, true, true, true, false] rfl rfl (any_of HT_.out (by kernel_rfl)) (fun _ _ _ h => h) (Or.inr ⟨by rfl, rfl⟩) ?_ ?_
       rotate_left
       ·simp only [Act.put, List.setIfInBounds_toArray, List.set_cons_zero, List.set_cons_succ, i64_w, i32_w]
        rfl
       refine pureA 18 (some 62) HT_.out ?_
       refine done_ (done_of HT_.out (by kernel_rfl)) ?_
       try go_wp2
       go_meet
       case rel => exact ⟨_, (true), eqA, H', ⟨by have := HJ1.out; first | omega | exact Nat.le_refl _⟩, ⟨bkA BK158.out⟩, ⟨blA HB.out⟩⟩
      ·rw [if_neg c23] at H
       have c23b0 : decide (64 < a0_4) = false := decide_eq_false c23; clear c23; replace H := Option.bind_eq_some_iff.mp H; obtain ⟨t159, A250, H⟩ := H; replace H : (steepleref25_Check.j1 kj1 (decide ((wrap64 (a0_3 + a0_4)) > t159)) a0_0 a0_1 a0_2 a0_3 a0_4 l0_5) = some r := H; have A25 := Aside0.mk A250; clear A250; have H' := Aside0.mk H; clear H
       try go_wp2
       have n0_ := Aside0.mk (blk_drew BK158.out); have n1_ := Aside0.mk (below_drew1 HB.out); clear BK158; clear HB; have BK158 := n0_; have HB := n1_; clear n0_ n1_
       refine start_ (n := 19) (S := fun w' => w'.cell? ⟨gb158, 0, none⟩ = some (.int .i64 a0_0) ∧ w'.cell? ⟨gb158, 1, none⟩ = some (.int .i64 a0_1) ∧ w'.cell? ⟨gb158, 2, none⟩ = some (.int .i64 a0_2) ∧ w'.cell? ⟨gb158, 3, none⟩ = some (.int .i64 a0_3) ∧ w'.cell? ⟨gb158, 4, none⟩ = some (.int .i64 a0_4) ∧ w'.cell? ⟨gb158, 5, none⟩ = some (.slice A0_5 l0_5.length c0_5)) (ds := []) #[false, false, false, false, false, false, false, false, false, false, false, false, false, false, false, false, false, false, false] (by kernel_rfl) rfl rfl ⟨(blk_cell BK158.out 0).trans rfl, (blk_cell BK158.out 1).trans rfl, (blk_cell BK158.out 2).trans rfl, (blk_cell BK158.out 3).trans rfl, (blk_cell BK158.out 4).trans rfl, (blk_cell BK158.out 5).trans rfl⟩ (fun hHeld => ?_); refine with_tabW steepleref25_Check.tab3 steepleref25_Check.bits3 (fun HT_ HW_ => ?_)
       generalize wc.drew = w26 at BK158 HB hHeld ⊢
       refine pureA 0 (some 44) HT_.out ?_
       refine takeA 1 (some 45) rfl HT_.out HW_.out hHeld (Or.inl ⟨by rfl, by rintro w' ⟨s0, s1, s2, s3, s4, s5⟩; go_simp; with_reducible rfl⟩) ?_
       refine pureA 2 (some 46) HT_.out ?_
       refine pureA 3 (some 47) HT_.out ?_
       refine pureA 4 (some 48) HT_.out ?_
       refine takeA 5 (some 49) rfl HT_.out HW_.out hHeld (Or.inl ⟨by rfl, by rintro w' ⟨s0, s1, s2, s3, s4, s5⟩; go_simp; with_reducible rfl⟩) ?_
       refine pureA 6 (some 50) HT_.out ?_
       refine pureA 7 (some 51) HT_.out ?_
       refine pureA 8 (some 52) HT_.out ?_
       refine pureA 9 (some 53) HT_.out ?_
       refine pureA 11 (some 55) HT_.out ?_
       refine pureA 14 (some 58) HT_.out ?_
       refine takeA 10 (some 54) rfl HT_.out HW_.out hHeld (Or.inl ⟨by rfl, by rintro w' ⟨s0, s1, s2, s3, s4, s5⟩; go_simp; with_reducible rfl⟩) ?_
       refine takeA 12 (some 56) rfl HT_.out HW_.out hHeld (Or.inl ⟨by rfl, by rintro w' ⟨s0, s1, s2, s3, s4, s5⟩; go_simp; with_reducible rfl⟩) ?_
       refine pureA 13 (some 57) HT_.out ?_
       refine takeA 15 (some 59) rfl HT_.out HW_.out hHeld (Or.inl ⟨by rfl, by rintro w' ⟨s0, s1, s2, s3, s4, s5⟩; go_simp; with_reducible rfl⟩) ?_
       refine one_ (i := 16) (N := some 60) #[true, true, true, true, true, true, true, true, true, true, true, true, true, true, true, true, true, false, false] rfl rfl (one_of HT_.out (by kernel_rfl)) (by decide) (fun K hK => ?_)
       refine goes_ Try.func32 (by kernel_rfl) rfl #[.int .i64 a0_2] (by rfl) rfl rfl gsA ?_
       with_reducible refine (steepleref15_Two.calls kj1 a0_2 t159 _ A25.out).mono ?_
       rintro e w' ⟨rfl, ⟨nd, rfl⟩⟩
       refine ⟨_, rfl, ?_⟩
       refine hK.out _ _ ⟨(blk_cell BK158.out 0).trans rfl, (blk_cell BK158.out 1).trans rfl, (blk_cell BK158.out 2).trans rfl, (blk_cell BK158.out 3).trans rfl, (blk_cell BK158.out 4).trans rfl, (blk_cell BK158.out 5).trans rfl⟩ (fun hHeld => ?_)
       clear hK K
       refine normA ?_
       refine pureA 17 (some 61) HT_.out ?_
       refine pureA 18 (some 62) HT_.out ?_
       refine done_ (done_of HT_.out (by kernel_rfl)) ?_
       try go_wp2
       go_meet
       case rel => exact ⟨_, (decide ((wrap64 (a0_3 + a0_4)) > t159)), eqA, H', ⟨by have := HJ1.out; first | omega | exact Nat.le_refl _⟩, ⟨bkA BK158.out⟩, ⟨blA HB.out⟩⟩
    case rest =>
     clear HC20; (try clear c1); (try clear c2); (try clear p2); (try clear c3); (try clear c4); (try clear c4b0); (try clear c6); (try clear c6b0); (try clear p6); (try clear c8); (try clear c8b0); (try clear c10); (try clear c10b0); (try clear c12); (try clear c12b0); (try clear c14); (try clear c14b0); (try clear c16); (try clear c16b0); (try clear c19); (try clear c21); (try clear c21b0); (try clear c23); (try clear c23b0); (try clear hcz11); (try clear hcz13); (try clear hcz15); (try clear hcz17); (try clear hcz18); (try clear hcz5); (try clear hcz7); (try clear hcz9); (try clear hfz11); (try clear hfz13); (try clear hfz15); (try clear hfz17); (try clear hfz18); (try clear hfz5); (try clear hfz7); (try clear hfz9); (try clear p2); obtain ⟨kq, x62_19, rfl, HA, HJ19, BK158, HB⟩ := hcut
     cases kq with
     | zero => exact absurd HA.out (by simp [steepleref25_Check.j1])
     | succ kj19 =>
      have H := HA.out; clear HA
      simp only [steepleref25_Check.j1] at H
      by_cases c27 : x62_19 = true
      ·subst c27
       have H1 : (some 1) = some r := by rw [if_pos rfl] at H; exact H
       clear H; have H := H1; clear H1; obtain rfl := Option.some.inj H
       go_wp2
       go_ret
       exact ⟨by first | rfl | (simp [errW_none, errW_some] <;> rfl) | (simp [*, errW_none, errW_some] <;> rfl), blA HB.out⟩
      ·replace c27 := Bool.eq_false_iff.mpr c27; subst c27
       have H1 : (if (l0_5.length : Int) > 30 then (some 2) else (steepleref25_Check.l0 kj19 (wrap64 (a0_3 + a0_4)) 0 a0_0 a0_1 a0_2 a0_3 a0_4 l0_5)) = some r := by rw [if_neg (show ¬ (false = true) by decide)] at H; exact H
       clear H; have H := H1; clear H1
       by_cases c28 : (l0_5.length : Int) > 30
       ·rw [if_pos c28] at H
        have c28b0 : decide (30 < (l0_5.length : Int)) = true := decide_eq_true c28
        have c28b1 : decide (30 < l0_5.length) = true := decide_eq_true (by omega)
        clear c28; obtain rfl := Option.some.inj H
        have hcz29 := fun i => blk_cell BK158.out i
        have hfz29 := fun i => blk_frozen BK158.out i
        go_wp2
        go_ret
        exact ⟨by first | rfl | (simp [errW_none, errW_some] <;> rfl) | (simp [*, errW_none, errW_some] <;> rfl), blA HB.out⟩
       ·rw [if_neg c28] at H
        have c28b0 : decide (30 < (l0_5.length : Int)) = false := decide_eq_false c28
        have c28b1 : decide (30 < l0_5.length) = false := decide_eq_false (by omega)
        clear c28; have H' := Aside0.mk H; clear H
        have hcz30 := fun i => blk_cell BK158.out i
        have hfz30 := fun i => blk_frozen BK158.out i
        go_wp2
        go_loopg [3, 4] kj19 (fun kq v3 v4 w' => ∃ (x3_3 : Int) (x4_3 : Int), v3 = .int .i64 x3_3 ∧ v4 = .int .i64 x4_3 ∧ Aside0 (steepleref25_Check.l0 kq x3_3 x4_3 a0_0 a0_1 a0_2 a0_3 a0_4 l0_5 = some r) ∧ Aside0 (kq ≤ kj19) ∧ Aside0 (w'.heap[gb158]? = some (.cells #[.int .i64 a0_0, .int .i64 a0_1, .int .i64 a0_2, .int .i64 a0_3, .int .i64 a0_4, (.slice A0_5 l0_5.length c0_5)] 28 (0, 0))) ∧ Aside0 (Below w.heap.size w w'))
        case atStart => exact ⟨(wrap64 (a0_3 + a0_4)), (0), eqA, eqA, H', ⟨Nat.le_refl _⟩, ⟨bkA BK158.out⟩, ⟨blA HB.out⟩⟩
        case round =>
         clear H'; (try clear c1); (try clear c2); (try clear p2); (try clear c3); (try clear c4); (try clear c4b0); (try clear c6); (try clear c6b0); (try clear p6); (try clear c8); (try clear c8b0); (try clear c10); (try clear c10b0); (try clear c12); (try clear c12b0); (try clear c14); (try clear c14b0); (try clear c16); (try clear c16b0); (try clear c19); (try clear c21); (try clear c21b0); (try clear c23); (try clear c23b0); (try clear c27); (try clear c28); (try clear c28b0); (try clear c28b1); (try clear hcz11); (try clear hcz13); (try clear hcz15); (try clear hcz17); (try clear hcz18); (try clear hcz29); (try clear hcz30); (try clear hcz5); (try clear hcz7); (try clear hcz9); (try clear hfz11); (try clear hfz13); (try clear hfz15); (try clear hfz17); (try clear hfz18); (try clear hfz29); (try clear hfz30); (try clear hfz5); (try clear hfz7); (try clear hfz9); (try clear p2); (try clear p6); obtain ⟨x3_3, x4_3, rfl, rfl, HA, HK3, BK158, HB⟩ := hrel
         cases gk with
         | zero => exact absurd HA.out (by simp [steepleref25_Check.l0])
         | succ k3 =>
          have H := HA.out; clear HA
          simp only [steepleref25_Check.l0] at H
          by_cases c31 : x4_3 < (l0_5.length : Int)
          ·rw [if_pos c31] at H
           have c31b0 : decide (x4_3 < (l0_5.length : Int)) = true := decide_eq_true c31; clear c31
           by_cases c32 : 0 ≤ x4_3
           ·rw [if_pos c32] at H
            have c32b0 : decide (0 ≤ x4_3) = true := decide_eq_true c32; clear c32; replace H := Option.bind_eq_some_iff.mp H; obtain ⟨t161, A330, H⟩ := H
            (try dsimp only at H)
            have A33 := Aside0.mk A330; clear A330
            by_cases c34 : t161 = 0
            ·rw [if_pos c34] at H
             have c34b0 : (t161 == 0) = true := beq_iff_eq.mpr c34; have c34b1 : (t161 != 0) = false := bne_eq_false_iff_eq.mpr c34; clear c34; replace H := Option.bind_eq_some_iff.mp H; obtain ⟨t163, A350, H⟩ := H; replace H : (steepleref25_Check.l0 k3 (wrap64 (x3_3 + t163)) (wrap64 (x4_3 + 1)) a0_0 a0_1 a0_2 a0_3 a0_4 l0_5) = some r := H; have A35 := Aside0.mk A350; clear A350; have H' := Aside0.mk H; clear H
             have hcz36 := fun i => blk_cell BK158.out i
             have hfz36 := fun i => blk_frozen BK158.out i
             try go_wp2
             have n0_ := Aside0.mk (blk_drew BK158.out); have n1_ := Aside0.mk (below_drew1 HB.out); clear BK158; clear HB; have BK158 := n0_; have HB := n1_; clear n0_ n1_
             have p160 : 0 ≤ (x4_3 : Int) := of_decide_eq_true (by first | (with_reducible assumption) | assumption)
             have q160 : x4_3 < (l0_5.length : Int) := of_decide_eq_true (by first | (with_reducible assumption) | assumption)
             obtain ⟨ad160, e160, hx160_0, hx160_1, hx160_2, hx160_3, hx160_4⟩ := at_T106 HR0_5.out x4_3 p160 q160; have hw160_4 := hx160_4; have hw160_3 := hx160_3; have hw160_2 := hx160_2; have hw160_1 := hx160_1; have hw160_0 := hx160_0
             cases e160
             replace hx160_0 := (HB.out.cell (World.block_lt_of_cell? w _ hx160_0)).trans hx160_0; replace hx160_1 := (HB.out.cell (World.block_lt_of_cell? w _ hx160_1)).trans hx160_1; replace hx160_2 := (HB.out.cell (World.block_lt_of_cell? w _ hx160_2)).trans hx160_2; replace hx160_3 := (HB.out.cell (World.block_lt_of_cell? w _ hx160_3)).trans hx160_3; replace hx160_4 := (HB.out.cell (World.block_lt_of_cell? w _ hx160_4)).trans hx160_4; replace p160 := eq_true p160; replace q160 := eq_true q160
             refine start_ (n := 9) (S := fun w' => w'.cell? ⟨gb158, 0, none⟩ = some (.int .i64 a0_0) ∧ w'.cell? ⟨gb158, 1, none⟩ = some (.int .i64 a0_1) ∧ w'.cell? ⟨gb158, 2, none⟩ = some (.int .i64 a0_2) ∧ w'.cell? ⟨gb158, 3, none⟩ = some (.int .i64 a0_3) ∧ w'.cell? ⟨gb158, 4, none⟩ = some (.int .i64 a0_4) ∧ w'.cell? ⟨gb158, 5, none⟩ = some (.slice (some ad160) l0_5.length c0_5) ∧ w'.cell? (ad160.add ((x4_3).toNat * 5)) = some (.int .i64 ((rd_T106 l0_5 x4_3).f0)) ∧ w'.cell? ⟨(ad160.add ((x4_3).toNat * 5)).block, (ad160.add ((x4_3).toNat * 5)).off + 1, none⟩ = some (.int .i64 ((rd_T106 l0_5 x4_3).f1)) ∧ w'.cell? ⟨(ad160.add ((x4_3).toNat * 5)).block, (ad160.add ((x4_3).toNat * 5)).off + 2, none⟩ = some (.int .i64 ((rd_T106 l0_5 x4_3).f2)) ∧ w'.cell? ⟨(ad160.add ((x4_3).toNat * 5)).block, (ad160.add ((x4_3).toNat * 5)).off + 3, none⟩ = some (.int .i64 ((rd_T106 l0_5 x4_3).f3)) ∧ w'.cell? ⟨(ad160.add ((x4_3).toNat * 5)).block, (ad160.add ((x4_3).toNat * 5)).off + 4, none⟩ = some (.int .i64 ((rd_T106 l0_5 x4_3).f4))) (ds := []) #[false, false, false, false, false, false, false, false, false] (by kernel_rfl) rfl rfl ⟨(blk_cell BK158.out 0).trans rfl, (blk_cell BK158.out 1).trans rfl, (blk_cell BK158.out 2).trans rfl, (blk_cell BK158.out 3).trans rfl, (blk_cell BK158.out 4).trans rfl, (blk_cell BK158.out 5).trans rfl, (clA HB.out hw160_0), (clA HB.out hw160_1), (clA HB.out hw160_2), (clA HB.out hw160_3), (clA HB.out hw160_4)⟩ (fun hHeld => ?_); refine with_tabW steepleref25_Check.tab11 steepleref25_Check.bits11 (fun HT_ HW_ => ?_)
             generalize wr.drew = w37 at BK158 HB hx160_0 hx160_1 hx160_2 hx160_3 hx160_4 hHeld ⊢
             refine pureA 1 (some 80) HT_.out ?_
             refine pureA 3 (some 82) HT_.out ?_
             refine pureA 6 (some 85) HT_.out ?_
             refine takeA 0 (some 79) rfl HT_.out HW_.out hHeld (Or.inl ⟨by rfl, by rintro w' ⟨s0, s1, s2, s3, s4, s5, s6, s7, s8, s9, s10⟩; go_simp; with_reducible rfl⟩) ?_
             refine takeA 2 (some 81) rfl HT_.out HW_.out hHeld (Or.inl ⟨by rfl, by rintro w' ⟨s0, s1, s2, s3, s4, s5, s6, s7, s8, s9, s10⟩; go_simp; with_reducible rfl⟩) ?_
             refine pureA 4 (some 83) HT_.out ?_
             refine takeA 5 (some 84) rfl HT_.out HW_.out hHeld (Or.inl ⟨by rfl, by rintro w' ⟨s0, s1, s2, s3, s4, s5, s6, s7, s8, s9, s10⟩; go_simp; with_reducible rfl⟩) ?_
             refine one_ (i := 7) (N := some 86) #[true, true, true, true, true, true, true, true, false] rfl rfl (one_of HT_.out (by kernel_rfl)) (by decide) (fun K hK => ?_)
             refine goes_ Try.func59 (by kernel_rfl) rfl #[.agg #[.int .i64 a0_0, .int .i64 a0_1, .int .i64 a0_2, .int .i64 a0_3, .int .i64 a0_4, .slice (some ad160) l0_5.length c0_5], .agg #[.int .i64 ((rd_T106 l0_5 x4_3).f0), .int .i64 ((rd_T106 l0_5 x4_3).f1), .int .i64 ((rd_T106 l0_5 x4_3).f2), .int .i64 ((rd_T106 l0_5 x4_3).f3), .int .i64 ((rd_T106 l0_5 x4_3).f4)], .int .i64 x3_3] (by rfl) rfl rfl gsA ?_
             with_reducible refine (steepleref25_System_Gate.calls k3 a0_0 a0_1 a0_2 a0_3 a0_4 _ _ l0_5 ((rd_T106 l0_5 x4_3).f0) ((rd_T106 l0_5 x4_3).f1) ((rd_T106 l0_5 x4_3).f2) ((rd_T106 l0_5 x4_3).f3) ((rd_T106 l0_5 x4_3).f4) x3_3 t161 _ ?side1 ?side2 A33.out).mono ?_
             (case side1 => repeat (first | exact (Kd.C_below HR0_5.out HB.out) | (with_reducible refine Kd.C_alloc ?_ _) | (with_reducible refine Kd.C_drewN ?_ _) | (with_reducible refine Kd.C_drew ?_)))
             (case side2 => exact HC0_5.out)
             rintro e w38 ⟨rfl, hb⟩
             refine ⟨_, rfl, ?_⟩
             have n0_ := Aside0.mk (blk_below (bkA BK158.out) hb); have n1_ := Aside0.mk (below_step (blA HB.out) hb); clear BK158; clear HB; have BK158 := n0_; have HB := n1_; clear n0_ n1_
             (try clear hb)
             refine hK.out _ _ ⟨(blk_cell BK158.out 0).trans rfl, (blk_cell BK158.out 1).trans rfl, (blk_cell BK158.out 2).trans rfl, (blk_cell BK158.out 3).trans rfl, (blk_cell BK158.out 4).trans rfl, (blk_cell BK158.out 5).trans rfl, (clA HB.out hw160_0), (clA HB.out hw160_1), (clA HB.out hw160_2), (clA HB.out hw160_3), (clA HB.out hw160_4)⟩ (fun hHeld => ?_)
             clear hK K
             refine normA ?_
             refine pureA 8 (some 5) HT_.out ?_
             refine done_ (done_of HT_.out (by kernel_rfl)) ?_
             have hcz39 := fun i => blk_cell BK158.out i
             have hfz39 := fun i => blk_frozen BK158.out i
             have p162 : 0 ≤ (x4_3 : Int) := of_decide_eq_true (by first | (with_reducible assumption) | assumption)
             have q162 : x4_3 < (l0_5.length : Int) := of_decide_eq_true (by first | (with_reducible assumption) | assumption)
             obtain ⟨ad162, e162, hx162_0, hx162_1, hx162_2, hx162_3, hx162_4⟩ := at_T106 HR0_5.out x4_3 p162 q162
             obtain rfl : ad160 = ad162 := (by injection e162)
             replace hx162_0 := (HB.out.cell (World.block_lt_of_cell? w _ hx162_0)).trans hx162_0; replace hx162_1 := (HB.out.cell (World.block_lt_of_cell? w _ hx162_1)).trans hx162_1; replace hx162_2 := (HB.out.cell (World.block_lt_of_cell? w _ hx162_2)).trans hx162_2; replace hx162_3 := (HB.out.cell (World.block_lt_of_cell? w _ hx162_3)).trans hx162_3; replace hx162_4 := (HB.out.cell (World.block_lt_of_cell? w _ hx162_4)).trans hx162_4; replace p162 := eq_true p162; replace q162 := eq_true q162
             try go_wp2_with (first | ((with_reducible refine gate_callee (f := 60) rfl ?_); refine goesL_ (some 96) rfl rfl Try.func60 (by kernel_rfl) rfl #[.agg #[.int .i64 ((rd_T106 l0_5 x4_3).f0), .int .i64 ((rd_T106 l0_5 x4_3).f1), .int .i64 ((rd_T106 l0_5 x4_3).f2), .int .i64 ((rd_T106 l0_5 x4_3).f3), .int .i64 ((rd_T106 l0_5 x4_3).f4)]] rfl gsA ?_; (with_reducible refine (steepleref25_Makes.calls ((rd_T106 l0_5 x4_3).f0) ((rd_T106 l0_5 x4_3).f1) ((rd_T106 l0_5 x4_3).f2) ((rd_T106 l0_5 x4_3).f3) ((rd_T106 l0_5 x4_3).f4) t163 _ A35.out).mono ?_); rintro e w40 ⟨rfl, hb⟩; refine ⟨_, rfl, ?_⟩; have n0_ := Aside0.mk (blk_below (bkA BK158.out) hb); have n1_ := Aside0.mk (below_step (blA HB.out) hb); clear BK158; clear HB; have BK158 := n0_; have HB := n1_; clear n0_ n1_; (try clear hb)))
             go_roundg k3
             case measure => have := HJ1.out; have := HJ19.out; have := HK3.out; omega
             case rel => exact ⟨(wrap64 (x3_3 + t163)), (wrap64 (x4_3 + 1)), eqA, eqA, H', ⟨by have := HJ1.out; have := HJ19.out; have := HK3.out; omega⟩, ⟨bkA BK158.out⟩, ⟨blA HB.out⟩⟩
            ·rw [if_neg c34] at H
             have c34b0 : (t161 == 0) = false := beq_eq_false_iff_ne.mpr c34; have c34b1 : (t161 != 0) = true := bne_iff_ne.mpr c34; obtain rfl := Option.some.inj H
             have hcz41 := fun i => blk_cell BK158.out i
             have hfz41 := fun i => blk_frozen BK158.out i
             try go_wp2
             have n0_ := Aside0.mk (blk_drew BK158.out); have n1_ := Aside0.mk (below_drew1 HB.out); clear BK158; clear HB; have BK158 := n0_; have HB := n1_; clear n0_ n1_
             have p160 : 0 ≤ (x4_3 : Int) := of_decide_eq_true (by first | (with_reducible assumption) | assumption)
             have q160 : x4_3 < (l0_5.length : Int) := of_decide_eq_true (by first | (with_reducible assumption) | assumption)
             obtain ⟨ad160, e160, hx160_0, hx160_1, hx160_2, hx160_3, hx160_4⟩ := at_T106 HR0_5.out x4_3 p160 q160; have hw160_4 := hx160_4; have hw160_3 := hx160_3; have hw160_2 := hx160_2; have hw160_1 := hx160_1; have hw160_0 := hx160_0
             cases e160
             replace hx160_0 := (HB.out.cell (World.block_lt_of_cell? w _ hx160_0)).trans hx160_0; replace hx160_1 := (HB.out.cell (World.block_lt_of_cell? w _ hx160_1)).trans hx160_1; replace hx160_2 := (HB.out.cell (World.block_lt_of_cell? w _ hx160_2)).trans hx160_2; replace hx160_3 := (HB.out.cell (World.block_lt_of_cell? w _ hx160_3)).trans hx160_3; replace hx160_4 := (HB.out.cell (World.block_lt_of_cell? w _ hx160_4)).trans hx160_4; replace p160 := eq_true p160; replace q160 := eq_true q160
             refine start_ (n := 9) (S := fun w' => w'.cell? ⟨gb158, 0, none⟩ = some (.int .i64 a0_0) ∧ w'.cell? ⟨gb158, 1, none⟩ = some (.int .i64 a0_1) ∧ w'.cell? ⟨gb158, 2, none⟩ = some (.int .i64 a0_2) ∧ w'.cell? ⟨gb158, 3, none⟩ = some (.int .i64 a0_3) ∧ w'.cell? ⟨gb158, 4, none⟩ = some (.int .i64 a0_4) ∧ w'.cell? ⟨gb158, 5, none⟩ = some (.slice (some ad160) l0_5.length c0_5) ∧ w'.cell? (ad160.add ((x4_3).toNat * 5)) = some (.int .i64 ((rd_T106 l0_5 x4_3).f0)) ∧ w'.cell? ⟨(ad160.add ((x4_3).toNat * 5)).block, (ad160.add ((x4_3).toNat * 5)).off + 1, none⟩ = some (.int .i64 ((rd_T106 l0_5 x4_3).f1)) ∧ w'.cell? ⟨(ad160.add ((x4_3).toNat * 5)).block, (ad160.add ((x4_3).toNat * 5)).off + 2, none⟩ = some (.int .i64 ((rd_T106 l0_5 x4_3).f2)) ∧ w'.cell? ⟨(ad160.add ((x4_3).toNat * 5)).block, (ad160.add ((x4_3).toNat * 5)).off + 3, none⟩ = some (.int .i64 ((rd_T106 l0_5 x4_3).f3)) ∧ w'.cell? ⟨(ad160.add ((x4_3).toNat * 5)).block, (ad160.add ((x4_3).toNat * 5)).off + 4, none⟩ = some (.int .i64 ((rd_T106 l0_5 x4_3).f4))) (ds := []) #[false, false, false, false, false, false, false, false, false] (by kernel_rfl) rfl rfl ⟨(blk_cell BK158.out 0).trans rfl, (blk_cell BK158.out 1).trans rfl, (blk_cell BK158.out 2).trans rfl, (blk_cell BK158.out 3).trans rfl, (blk_cell BK158.out 4).trans rfl, (blk_cell BK158.out 5).trans rfl, (clA HB.out hw160_0), (clA HB.out hw160_1), (clA HB.out hw160_2), (clA HB.out hw160_3), (clA HB.out hw160_4)⟩ (fun hHeld => ?_); refine with_tabW steepleref25_Check.tab11 steepleref25_Check.bits11 (fun HT_ HW_ => ?_)
             generalize wr.drew = w42 at BK158 HB hx160_0 hx160_1 hx160_2 hx160_3 hx160_4 hHeld ⊢
             refine pureA 1 (some 80) HT_.out ?_
             refine pureA 3 (some 82) HT_.out ?_
             refine pureA 6 (some 85) HT_.out ?_
             refine takeA 0 (some 79) rfl HT_.out HW_.out hHeld (Or.inl ⟨by rfl, by rintro w' ⟨s0, s1, s2, s3, s4, s5, s6, s7, s8, s9, s10⟩; go_simp; with_reducible rfl⟩) ?_
             refine takeA 2 (some 81) rfl HT_.out HW_.out hHeld (Or.inl ⟨by rfl, by rintro w' ⟨s0, s1, s2, s3, s4, s5, s6, s7, s8, s9, s10⟩; go_simp; with_reducible rfl⟩) ?_
             refine pureA 4 (some 83) HT_.out ?_
             refine takeA 5 (some 84) rfl HT_.out HW_.out hHeld (Or.inl ⟨by rfl, by rintro w' ⟨s0, s1, s2, s3, s4, s5, s6, s7, s8, s9, s10⟩; go_simp; with_reducible rfl⟩) ?_
             refine one_ (i := 7) (N := some 86) #[true, true, true, true, true, true, true, true, false] rfl rfl (one_of HT_.out (by kernel_rfl)) (by decide) (fun K hK => ?_)
             refine goes_ Try.func59 (by kernel_rfl) rfl #[.agg #[.int .i64 a0_0, .int .i64 a0_1, .int .i64 a0_2, .int .i64 a0_3, .int .i64 a0_4, .slice (some ad160) l0_5.length c0_5], .agg #[.int .i64 ((rd_T106 l0_5 x4_3).f0), .int .i64 ((rd_T106 l0_5 x4_3).f1), .int .i64 ((rd_T106 l0_5 x4_3).f2), .int .i64 ((rd_T106 l0_5 x4_3).f3), .int .i64 ((rd_T106 l0_5 x4_3).f4)], .int .i64 x3_3] (by rfl) rfl rfl gsA ?_
             with_reducible refine (steepleref25_System_Gate.calls k3 a0_0 a0_1 a0_2 a0_3 a0_4 _ _ l0_5 ((rd_T106 l0_5 x4_3).f0) ((rd_T106 l0_5 x4_3).f1) ((rd_T106 l0_5 x4_3).f2) ((rd_T106 l0_5 x4_3).f3) ((rd_T106 l0_5 x4_3).f4) x3_3 t161 _ ?side1 ?side2 A33.out).mono ?_
             (case side1 => repeat (first | exact (Kd.C_below HR0_5.out HB.out) | (with_reducible refine Kd.C_alloc ?_ _) | (with_reducible refine Kd.C_drewN ?_ _) | (with_reducible refine Kd.C_drew ?_)))
             (case side2 => exact HC0_5.out)
             rintro e w43 ⟨rfl, hb⟩
             refine ⟨_, rfl, ?_⟩
             have n0_ := Aside0.mk (blk_below (bkA BK158.out) hb); have n1_ := Aside0.mk (below_step (blA HB.out) hb); clear BK158; clear HB; have BK158 := n0_; have HB := n1_; clear n0_ n1_
             (try clear hb)
             refine hK.out _ _ ⟨(blk_cell BK158.out 0).trans rfl, (blk_cell BK158.out 1).trans rfl, (blk_cell BK158.out 2).trans rfl, (blk_cell BK158.out 3).trans rfl, (blk_cell BK158.out 4).trans rfl, (blk_cell BK158.out 5).trans rfl, (clA HB.out hw160_0), (clA HB.out hw160_1), (clA HB.out hw160_2), (clA HB.out hw160_3), (clA HB.out hw160_4)⟩ (fun hHeld => ?_)
             clear hK K
             refine normA ?_
             refine pureA 8 (some 5) HT_.out ?_
             refine done_ (done_of HT_.out (by kernel_rfl)) ?_
             try go_wp2
             go_ret
             exact ⟨by first | rfl | (simp [errW_none, errW_some] <;> rfl) | (simp [*, errW_none, errW_some] <;> rfl), blA HB.out⟩
           ·rw [if_neg c32] at H
            exact absurd H (by simp)
          ·rw [if_neg c31] at H
           have c31b0 : decide (x4_3 < (l0_5.length : Int)) = false := decide_eq_false c31; clear c31; obtain rfl := Option.some.inj H
           have hcz44 := fun i => blk_cell BK158.out i
           have hfz44 := fun i => blk_frozen BK158.out i
           go_wp2
           go_ret
           exact ⟨by first | rfl | (simp [errW_none, errW_some] <;> rfl) | (simp [*, errW_none, errW_some] <;> rfl), blA HB.out⟩
end Go.Proofs.Ythiiodgpdoljoaa.PLc
namespace Go.Proofs.Ythiiodgpdoljoaa.Pure
open Go.RowKit Go.Proofs.Ythiiodgpdoljoaa.PLc Go.Proofs.YthiiodgpdoljoaaW.PrintWords Go.Proofs.YthiiodgpdoljoaaW.PrintLast
set_option linter.unusedVariables false
set_option linter.unusedSimpArgs false
def p2 (n : Int) : Int := 2 ^ n.toNat
theorem p2_cases {n : Int} (h0 : 0 ≤ n) (h6 : n ≤ 6) : (n = 0 ∧ p2 n = 1) ∨ (n = 1 ∧ p2 n = 2) ∨ (n = 2 ∧ p2 n = 4) ∨ (n = 3 ∧ p2 n = 8) ∨ (n = 4 ∧ p2 n = 16) ∨ (n = 5 ∧ p2 n = 32) ∨ (n = 6 ∧ p2 n = 64) := by
  have : n = 0 ∨ n = 1 ∨ n = 2 ∨ n = 3 ∨ n = 4 ∨ n = 5 ∨ n = 6 := by omega
  rcases this with rfl | rfl | rfl | rfl | rfl | rfl | rfl <;> simp [p2]
theorem p2_bound {n : Int} (h0 : 0 ≤ n) (h6 : n ≤ 6) : 1 ≤ p2 n ∧ p2 n ≤ 64 := by
  rcases p2_cases h0 h6 with h | h | h | h | h | h | h <;> omega
theorem shl_p2 {n : Int} (h0 : 0 ≤ n) (h6 : n ≤ 6) : shl .i64 1 n = p2 n := by
  have : n = 0 ∨ n = 1 ∨ n = 2 ∨ n = 3 ∨ n = 4 ∨ n = 5 ∨ n = 6 := by omega
  rcases this with rfl | rfl | rfl | rfl | rfl | rfl | rfl <;> decide
def fits (kind w s : Int) : Bool := decide (0 ≤ kind ∧ kind ≤ 3 ∧ 0 ≤ w ∧ w ≤ 6 ∧ 0 ≤ s ∧ s < p2 w ∧ (kind = 0 → s = 0))
theorem turnFits (kind w s : Int) : turn_Fits.f kind w s = some (fits kind w s) := by
  unfold turn_Fits.f fits
  by_cases h1 : kind ≥ 0 <;> by_cases h2 : kind ≤ 3 <;> by_cases h3 : w ≥ 0 <;> by_cases h4 : w ≤ 6 <;> by_cases h5 : s ≥ 0 <;> simp [h1, h2, h3, h4, h5]
  rw [shl_p2 h3 h4]
  by_cases h6 : s < p2 w <;> by_cases h7 : kind = 0 <;> simp [h6, h7]
  rfl
def gErr (wide cols : Int) (g : S105) (n : Int) : Int :=
  if g.f0 < 1 ∨ 8 < g.f0 then 3
  else if (¬ (g.f0 = 1 ∨ g.f0 = 2 ∨ g.f0 = 7 ∨ g.f0 = 8) ∧ g.f3 ≠ 0) ∨ (g.f0 = 8 ∧ g.f1 ≠ 0) ∨ (¬ (4 ≤ g.f0 ∧ g.f0 ≤ 6) ∧ g.f0 ≠ 7 ∧ g.f4 ≠ 0) then 3
  else if g.f2 < 0 ∨ n ≤ g.f2 ∨ ((g.f0 = 1 ∨ g.f0 = 2 ∨ g.f0 = 7 ∨ g.f0 = 8) ∧ (g.f3 < 0 ∨ n ≤ g.f3)) then 4
  else if (4 ≤ g.f0 ∧ g.f0 ≤ 6) ∧ fits (g.f0 - 3) wide g.f4 = false then 1
  else if (g.f0 ≠ 8 ∧ g.f1 ≠ n) ∨ (g.f0 = 7 ∧ g.f4 ≠ n + 1) then 3
  else if n + (if g.f0 = 8 then 0 else if g.f0 = 7 then 2 else 1) > p2 cols then 2 else 0
def makes (k : Int) : Int := if k = 8 then 0 else if k = 7 then 2 else 1
theorem w64 {x : Int} (h0 : -1000000 ≤ x) (h1 : x ≤ 1000000) : wrap64 x = x := by unfold wrap64; omega
theorem gateSpec (m : Nat) (wide rows cols pub priv : Int) (l : List S105) (g : S105) (n : Int) (hw : 0 ≤ wide) (hw5 : wide ≤ 5) (hc : 0 ≤ cols) (hc6 : cols ≤ 6) (hn : 0 ≤ n) (hn2 : n ≤ 64) :
    circuit_gate.f (m + 12) wide rows cols pub priv l g.f0 g.f1 g.f2 g.f3 g.f4 n = some (if gErr wide cols g n = 0 then (n + makes g.f0, 0) else (0, gErr wide cols g n)) := by
  obtain ⟨f0, f1, f2, f3, f4⟩ := g
  have hs := shl_p2 hc hc6
  have hb := p2_bound hc hc6
  have e1 := w64 (x := n + 1) (by omega) (by omega)
  have e2 := w64 (x := n + 1 + 1) (by omega) (by omega)
  have hf : f0 < 1 ∨ 8 < f0 ∨ f0 = 1 ∨ f0 = 2 ∨ f0 = 3 ∨ f0 = 4 ∨ f0 = 5 ∨ f0 = 6 ∨ f0 = 7 ∨ f0 = 8 := by omega
  rcases hf with h | h | rfl | rfl | rfl | rfl | rfl | rfl | rfl | rfl
  · have a1 : ¬ f0 = 7 := by omega
    have a2 : ¬ f0 = 1 := by omega
    have a3 : (f0 == 2) = false := by simp; omega
    have a4 : ¬ f0 = 8 := by omega
    have a5 : ¬ f0 = 4 := by omega
    have a6 : ¬ f0 = 5 := by omega
    have a7 : (f0 == 6) = false := by simp; omega
    have a8 : ¬ f0 = 3 := by omega
    have a9 : ¬ f0 = 6 := by omega
    simp [circuit_gate.f, circuit_needs.f, circuit_needs.j0, circuit_needs.j1, circuit_turned.f, circuit_gate.j0, gErr, a1, a2, a3, a4, a5, a6, a7, a8, a9, h]
  · have a1 : ¬ f0 = 7 := by omega
    have a2 : ¬ f0 = 1 := by omega
    have a3 : (f0 == 2) = false := by simp; omega
    have a4 : ¬ f0 = 8 := by omega
    have a5 : ¬ f0 = 4 := by omega
    have a6 : ¬ f0 = 5 := by omega
    have a7 : (f0 == 6) = false := by simp; omega
    have a8 : ¬ f0 = 3 := by omega
    have a9 : ¬ f0 = 6 := by omega
    have a0 : ¬ f0 < 1 := by omega
    simp [circuit_gate.f, circuit_needs.f, circuit_needs.j0, circuit_needs.j1, circuit_turned.f, circuit_gate.j0, gErr, a1, a2, a3, a4, a5, a6, a7, a8, a9, a0, h]
  all_goals simp [circuit_gate.f, circuit_needs.f, circuit_needs.j0, circuit_needs.j1, circuit_turned.f, circuit_gate.j0, circuit_gate.j1, circuit_gate.j2, circuit_gate.j3, circuit_gate.j4, turnFits, hs, e1, e2, gErr, makes, hc]
  all_goals clear hs
  all_goals grind
def walk (wide cols : Int) : List S105 → Int → Int × Int
  | [], n => (n, 0)
  | g :: gs, n => if gErr wide cols g n = 0 then walk wide cols gs (n + makes g.f0) else (0, gErr wide cols g n)
theorem gErr_ok {wide cols : Int} {g : S105} {n : Int} (h : gErr wide cols g n = 0) : 1 ≤ g.f0 ∧ g.f0 ≤ 8 ∧ n + makes g.f0 ≤ p2 cols := by
  unfold gErr makes at *
  grind
theorem makes_nonneg (k : Int) : 0 ≤ makes k ∧ makes k ≤ 2 := by unfold makes; grind
theorem rd105 (l : List S105) (i : Nat) (h : i < l.length) : rd_T105 l (i : Int) = l[i] := by simp [rd_T105, List.getD_eq_getElem?_getD, h]
theorem rd106 (l : List S106) (i : Nat) (h : i < l.length) : rd_T106 l (i : Int) = l[i] := by simp [rd_T106, List.getD_eq_getElem?_getD, h]
theorem lookLoop (wide rows cols pub priv : Int) (l : List S105) (hw : 0 ≤ wide) (hw5 : wide ≤ 5) (hc : 0 ≤ cols) (hc6 : cols ≤ 6) (hl : l.length ≤ 1000) (d : Nat) : ∀ (k i : Nat) (n : Int), l.length - i = d → i ≤ l.length → d + 20 < k → 0 ≤ n → n ≤ p2 cols →
    circuit_look.l0 k n l (l.length : Int) (i : Int) wide rows cols pub priv l = some (walk wide cols (l.drop i) n) := by
  have hb := p2_bound hc hc6
  induction d with
  | zero =>
    intro k i n hd hi hk hn hn2
    obtain ⟨k, rfl⟩ : ∃ m, k = m + 1 := ⟨k - 1, by omega⟩
    simp only [circuit_look.l0]
    rw [if_neg (by omega), List.drop_of_length_le (by omega)]
    rfl
  | succ d ih =>
    intro k i n hd hi hk hn hn2
    obtain ⟨k, rfl⟩ : ∃ m, k = m + 12 + 1 := ⟨k - 13, by omega⟩
    have hlt : i < l.length := by omega
    simp only [circuit_look.l0]
    rw [if_pos (by omega), if_pos (by omega), if_pos (by omega), rd105 l i hlt, gateSpec k wide rows cols pub priv l l[i] n hw hw5 hc hc6 hn (by omega)]
    rw [List.drop_eq_getElem_cons hlt]
    simp only [Option.bind_some, walk]
    by_cases he : gErr wide cols l[i] n = 0
    · have h3 := gErr_ok he
      have h4 := makes_nonneg l[i].f0
      simp only [he, if_true]
      rw [w64 (by omega) (by omega)]
      exact ih (k + 12) (i + 1) _ (by omega) (by omega) (by omega) (by omega) (by omega)
    · simp only [he, if_false]
def lookS (wide rows cols pub priv : Int) (l : List S105) : Int × Int :=
  if wide < 0 ∨ 5 < wide ∨ rows < 0 ∨ 4 < rows ∨ cols < 0 ∨ 6 < cols then (0, 1)
  else if pub < 0 ∨ priv < 0 ∨ p2 cols < pub ∨ p2 cols - pub < priv then (0, 1)
  else if 30 < l.length then (0, 2) else walk wide cols l (pub + priv)
theorem lookSpec (m : Nat) (wide rows cols pub priv : Int) (l : List S105) : circuit_look.f (m + 60) wide rows cols pub priv l = some (lookS wide rows cols pub priv l) := by
  unfold lookS
  by_cases h1 : wide < 0 ∨ 5 < wide ∨ rows < 0 ∨ 4 < rows ∨ cols < 0 ∨ 6 < cols
  · rw [if_pos h1]
    simp only [circuit_look.f, circuit_look.j0]
    grind
  · rw [if_neg h1]
    have hc : 0 ≤ cols := by omega
    have hc6 : cols ≤ 6 := by omega
    have hs := shl_p2 hc hc6
    have hb := p2_bound hc hc6
    have hj : circuit_look.f (m + 60) wide rows cols pub priv l = circuit_look.j0 (m + 60) false wide rows cols pub priv l := by
      simp only [circuit_look.f]
      rw [if_neg (by omega), if_neg (by omega), if_neg (by omega), if_neg (by omega), if_neg (by omega)]
      congr 1
      simp; omega
    rw [hj]
    simp only [circuit_look.j0, hs]
    by_cases h2 : pub < 0 ∨ priv < 0 ∨ p2 cols < pub ∨ p2 cols - pub < priv
    · rw [if_pos h2]
      simp only [circuit_look.j1]
      by_cases a1 : pub < 0
      · simp [a1]
      · by_cases a2 : priv < 0
        · simp [a1, a2]
        · by_cases a3 : p2 cols < pub
          · simp [a1, a2, a3, hc]
          · have : wrap64 (p2 cols - pub) = p2 cols - pub := w64 (by omega) (by omega)
            have a4 : p2 cols - pub < priv := by omega
            simp [a1, a2, a3, hc, this, a4]
    · rw [if_neg h2]
      have e1 : wrap64 (p2 cols - pub) = p2 cols - pub := w64 (by omega) (by omega)
      have e2 : wrap64 (pub + priv) = pub + priv := w64 (by omega) (by omega)
      have a1 : ¬ pub < 0 := by omega
      have a2 : ¬ priv < 0 := by omega
      have a3 : ¬ p2 cols < pub := by omega
      have a4 : ¬ p2 cols - pub < priv := by omega
      simp only [a1, a2, hc, if_false, if_true, gt_iff_lt, a3, e1, a4, decide_false, circuit_look.j1, Bool.false_eq_true, e2]
      by_cases h3 : 30 < l.length
      · rw [if_pos (by omega), if_pos h3]
      · rw [if_neg (by omega), if_neg h3]
        exact lookLoop wide rows cols pub priv l (by omega) (by omega) hc hc6 (by omega) l.length _ 0 (pub + priv) (by omega) (by omega) (by omega) (by omega) (by omega)
end Go.Proofs.Ythiiodgpdoljoaa.Pure
namespace Go.Proofs.Ythiiodgpdoljoaa.PLc
open Go.RowKit Go.Proofs.YthiiodgpdoljoaaW.PrintWords Go.Proofs.YthiiodgpdoljoaaW.PrintLast Go.Proofs.YthiiodgpdoljoaaW.PrintMore
attribute [local go_sem] max2_int min2_int max_two min_two max_three min_three max_four min_four   -- for this text's walks alone
set_option linter.unusedVariables false
set_option linter.unusedSimpArgs false
theorem eqA74 (d : Nat) (w : World) (x0 y0 : Int) (x1 y1 : Int) :
  (Op.equalIn (d + 2) 74 (.agg #[.int .u64 x0, .int .u64 x1]) (.agg #[.int .u64 y0, .int .u64 y1])).run Try.prog w = .ok (x0 == y0 && (x1 == y1)) w := by
 refine eqA_of Try.underlying74 (by kernel_rfl) ?_
 refine eqf_cons (by rfl) (by go_simp; rfl) (by go_simp; rfl) (by go_simp) ?_
 exact eqf_last (by rfl) (by go_simp; rfl) (by go_simp; rfl) (by go_simp)
end Go.Proofs.Ythiiodgpdoljoaa.PLc
namespace Go.Proofs.Ythiiodgpdoljoaa.PLc
open Go.RowKit Go.Proofs.YthiiodgpdoljoaaW.PrintWords Go.Proofs.YthiiodgpdoljoaaW.PrintLast Go.Proofs.YthiiodgpdoljoaaW.PrintMore
attribute [local go_sem] max2_int min2_int max_two min_two max_three min_three max_four min_four   -- for this text's walks alone
set_option linter.unusedVariables false
set_option linter.unusedSimpArgs false
theorem eqA76 (d : Nat) (w : World) (x0 y0 : Int) (x1 y1 : Int) (x2 y2 : Int) (x3 y3 : Int) (x4 y4 : Int) :
  (Op.equalIn (d + 3) 76 (.agg #[.int .i64 x0, .int .i64 x1, .int .i64 x2, .int .u64 x3, .int .u64 x4]) (.agg #[.int .i64 y0, .int .i64 y1, .int .i64 y2, .int .u64 y3, .int .u64 y4])).run Try.prog w = .ok (x0 == y0 && (x1 == y1 && (x2 == y2 && ((x3 == y3 && (x4 == y4)))))) w := by
 refine eqA_of Try.underlying76 (by kernel_rfl) ?_
 refine eqf_cons (by rfl) (by go_simp; rfl) (by go_simp; rfl) (by go_simp) ?_
 refine eqf_cons (by rfl) (by go_simp; rfl) (by go_simp; rfl) (by go_simp) ?_
 refine eqf_cons (by rfl) (by go_simp; rfl) (by go_simp; rfl) (by go_simp) ?_
 exact eqf_last (by rfl) (by go_simp) (by go_simp) (eqA74 (d + 0) w _ _ _ _)
end Go.Proofs.Ythiiodgpdoljoaa.PLc
namespace Go.Proofs.Ythiiodgpdoljoaa.PLc
open Go.RowKit Go.Proofs.YthiiodgpdoljoaaW.PrintWords Go.Proofs.YthiiodgpdoljoaaW.PrintLast Go.Proofs.YthiiodgpdoljoaaW.PrintMore
attribute [local go_sem] max2_int min2_int max_two min_two max_three min_three max_four min_four   -- for this text's walks alone
set_option linter.unusedVariables false
set_option linter.unusedSimpArgs false
attribute [local go_sem high] eqA76
/-! ### circuit_Check: function 21 -/
def circuit_Check.f (k : Nat) (a0_0 : Int) (a0_1 : Int) (a0_2 : Int) (a0_3 : Int) (a0_4 : Int) (l0_5 : List (S105)) : Option (Int) := (circuit_look.f k a0_0 a0_1 a0_2 a0_3 a0_4 l0_5).bind fun bt114 => (some bt114.2)
theorem circuit_Check.mono : ∀ a0 a1 a2 a3 a4 a5 k, LeO (circuit_Check.f k a0 a1 a2 a3 a4 a5) (circuit_Check.f (k + 1) a0 a1 a2 a3 a4 a5) := by
 intro a0 a1 a2 a3 a4 a5 k
 unfold circuit_Check.f
 repeat' first
   | (with_reducible exact circuit_look.mono _ _ _ _ _ _ _)
   | (with_reducible exact LeO.refl _)
   | (with_reducible exact LeO.none _)
   | (with_reducible refine LeO.ite ?_ ?_)
   | (with_reducible refine LeO.bind ?_ (fun _ => ?_))
   | exact circuit_look.mono _ _ _ _ _ _ _
   | exact LeO.none _
   | refine LeO.ite ?_ ?_
   | refine LeO.bind ?_ (fun _ => ?_)
set_option maxHeartbeats 8000000 in
set_option maxRecDepth 100000 in
theorem circuit_Check.calls (k : Nat) (a0_0 : Int) (a0_1 : Int) (a0_2 : Int) (a0_3 : Int) (a0_4 : Int) (A0_5 : Option Addr) (c0_5 : Nat) (l0_5 : List (S105)) (r : Int) (w : World) (hr0_5 : Kd.C k105 w A0_5 l0_5.length l0_5) (hc0_5 : l0_5.length ≤ c0_5) (h : circuit_Check.f k a0_0 a0_1 a0_2 a0_3 a0_4 l0_5 = some r) :
  Calls Try.prog 21 #[.agg #[.int .i64 a0_0, .int .i64 a0_1, .int .i64 a0_2, .int .i64 a0_3, .int .i64 a0_4, .slice A0_5 l0_5.length c0_5]] w fun e w' => e = .returned (.int .i64 r) ∧ Below w.heap.size w w' := by
 have hu24 := Try.underlying24; have HR0_5 := Aside0.mk hr0_5; have HC0_5 := Aside0.mk hc0_5; clear hr0_5 hc0_5; have HB := Aside0.mk (Below.refl w.heap.size w)
 have H : ((circuit_look.f k a0_0 a0_1 a0_2 a0_3 a0_4 l0_5).bind fun bt114 => (some bt114.2)) = some r := h
 clear h; replace H := Option.bind_eq_some_iff.mp H
 obtain ⟨⟨t114, t115⟩, A20, H⟩ := H
 (try dsimp only at H); have A2 := Aside0.mk A20; clear A20; obtain rfl := Option.some.inj H
 go_enter Try.func21, Try.ntmps21
 go_wp2_with (first | ((with_reducible refine gate_dst (N := 1) rfl ?_); refine box_event ?hg (N := 1) ?hd (cs := #[.int .i64 a0_0, .int .i64 a0_1, .int .i64 a0_2, .int .i64 a0_3, .int .i64 a0_4, .slice A0_5 l0_5.length c0_5]) (t := 24) ?hr ?_; (case hd => rfl); (case hg => rfl); (case hr => first | (go_simp; done) | (go_simp; rfl)); intro gb113 hg w3 hbox hb; have n0_ := Aside0.mk (below_step (blA HB.out) hb); have n1_ := Aside0.mk (hbox); have n2_ := Aside0.mk ((by rw [hg]; exact (below_size (blA HB.out)) : w.heap.size ≤ gb113)); have n3_ := Aside0.mk ((by rw [hg]; exact (below_size (blA HB.out)) : w.heap.size ≤ gb113)); clear HB; have HB := n0_; have BK113 := n1_; have GW113 := n2_; have GE113 := n3_; clear n0_ n1_ n2_ n3_; clear hb hbox hg; have hcz4 := fun i => blk_cell BK113.out i; have hfz4 := fun i => blk_frozen BK113.out i; ) | ((with_reducible refine gate_callee (f := 64) rfl ?_); refine goesL_ (some 7) rfl rfl Try.func64 (by kernel_rfl) rfl #[.agg #[.int .i64 a0_0, .int .i64 a0_1, .int .i64 a0_2, .int .i64 a0_3, .int .i64 a0_4, .slice A0_5 l0_5.length c0_5]] rfl gsA ?_; (with_reducible refine (circuit_look.calls k a0_0 a0_1 a0_2 a0_3 a0_4 _ _ l0_5 t114 t115 _ ?side1 ?side2 A2.out).mono ?_); (case side1 => repeat (first | exact (Kd.C_below HR0_5.out HB.out) | (with_reducible refine Kd.C_alloc ?_ _) | (with_reducible refine Kd.C_drewN ?_ _) | (with_reducible refine Kd.C_drew ?_))); (case side2 => exact HC0_5.out); rintro e w5 ⟨rfl, hb⟩; refine ⟨_, rfl, ?_⟩; have n0_ := Aside0.mk (blk_below (bkA BK113.out) hb); have n1_ := Aside0.mk (below_step (blA HB.out) hb); clear BK113; clear HB; have BK113 := n0_; have HB := n1_; clear n0_ n1_; (try clear hb)))
 go_ret
 exact ⟨by first | rfl | (simp [errW_none, errW_some] <;> rfl) | (simp [*, errW_none, errW_some] <;> rfl), blA HB.out⟩
/-! ### api_Claim: function 134 -/
def api_Claim.l0 : Nat → List (S76) → Int → Int → Int → Int → Int → Int → Int → Option (Int)
 | 0, _, _, _, _, _, _, _, _ => none
 | k + 1, x0, x7, x8, x117000, x117001, x117002, x117003, x117004 => if x8 < x7 then (if 0 ≤ x8 then (if x8 < (x0.length : Int) then (if (x117000 == ((rd_T76 x0 x8).f0) && (x117001 == ((rd_T76 x0 x8).f1) && (x117002 == ((rd_T76 x0 x8).f2) && ((x117003 == ((rd_T76 x0 x8).f3.f0) && (x117004 == ((rd_T76 x0 x8).f3.f1))))))) = true then (some x8) else (api_Claim.l0 k x0 x7 (wrap64 (x8 + 1)) x117000 x117001 x117002 x117003 x117004)) else (none)) else (none)) else (some (-1))
def api_Claim.f (k : Nat) (l0 : List (S76)) (a1_0 : Int) (a1_1 : Int) (a1_2 : Int) (a1_3 : Int) (a1_4 : Int) : Option (Int) := api_Claim.l0 k l0 (l0.length : Int) 0 a1_0 a1_1 a1_2 a1_3 a1_4
theorem api_Claim.mono_l : ∀ k, (∀ y0 y1 y2 y3 y4 y5 y6 y7, LeO (api_Claim.l0 k y0 y1 y2 y3 y4 y5 y6 y7) (api_Claim.l0 (k + 1) y0 y1 y2 y3 y4 y5 y6 y7))
 | 0 => fun _ _ _ _ _ _ _ _ r h => by simp [api_Claim.l0] at h
 | k + 1 => by
  have ih0 := api_Claim.mono_l k
  ·intro y0 y1 y2 y3 y4 y5 y6 y7
   unfold api_Claim.l0
   repeat' first
   | (with_reducible exact ih0 _ _ _ _ _ _ _ _)
   | (with_reducible exact LeO.refl _)
   | (with_reducible exact LeO.none _)
   | (with_reducible refine LeO.ite ?_ ?_)
   | (with_reducible refine LeO.bind ?_ (fun _ => ?_))
   | exact ih0 _ _ _ _ _ _ _ _
   | exact LeO.none _
   | refine LeO.ite ?_ ?_
   | refine LeO.bind ?_ (fun _ => ?_)
theorem api_Claim.mono : ∀ a0 a1 a2 a3 a4 a5 k, LeO (api_Claim.f k a0 a1 a2 a3 a4 a5) (api_Claim.f (k + 1) a0 a1 a2 a3 a4 a5) := by
 intro a0 a1 a2 a3 a4 a5 k
 have ih0 := api_Claim.mono_l k
 unfold api_Claim.f
 repeat' first
   | (with_reducible exact ih0 _ _ _ _ _ _ _ _)
   | (with_reducible exact LeO.refl _)
   | (with_reducible exact LeO.none _)
   | (with_reducible refine LeO.ite ?_ ?_)
   | (with_reducible refine LeO.bind ?_ (fun _ => ?_))
   | exact ih0 _ _ _ _ _ _ _ _
   | exact LeO.none _
   | refine LeO.ite ?_ ?_
   | refine LeO.bind ?_ (fun _ => ?_)
set_option maxHeartbeats 8000000 in
set_option maxRecDepth 100000 in
theorem api_Claim.calls (k : Nat) (A0 : Option Addr) (c0 : Nat) (l0 : List (S76)) (a1_0 : Int) (a1_1 : Int) (a1_2 : Int) (a1_3 : Int) (a1_4 : Int) (r : Int) (w : World) (hr0 : Kd.C k76 w A0 l0.length l0) (hc0 : l0.length ≤ c0) (h : api_Claim.f k l0 a1_0 a1_1 a1_2 a1_3 a1_4 = some r) :
  Calls Try.prog 134 #[.slice A0 l0.length c0, .agg #[.int .i64 a1_0, .int .i64 a1_1, .int .i64 a1_2, .int .u64 a1_3, .int .u64 a1_4]] w fun e w' => e = .returned (.int .i64 r) ∧ Below w.heap.size w w' := by
 have hu76 := Try.underlying76; have HR0 := Aside0.mk hr0; have HC0 := Aside0.mk hc0; clear hr0 hc0; have HB := Aside0.mk (Below.refl w.heap.size w); have H : (api_Claim.l0 k l0 (l0.length : Int) 0 a1_0 a1_1 a1_2 a1_3 a1_4) = some r := h; clear h; have H' := Aside0.mk H; clear H
 go_enter Try.func134, Try.ntmps134
 go_wp2_with (first | ((with_reducible refine gate_dst (N := 3) rfl ?_); refine box_event ?hg (N := 3) ?hd (cs := #[.int .i64 a1_0, .int .i64 a1_1, .int .i64 a1_2, .int .u64 a1_3, .int .u64 a1_4]) (t := 76) ?hr ?_; (case hd => rfl); (case hg => rfl); (case hr => first | (go_simp; done) | (go_simp; rfl)); intro gb116 hg w3 hbox hb; have n0_ := Aside0.mk (below_step (blA HB.out) hb); have n1_ := Aside0.mk (hbox); have n2_ := Aside0.mk ((by rw [hg]; exact (below_size (blA HB.out)) : w.heap.size ≤ gb116)); have n3_ := Aside0.mk ((by rw [hg]; exact (below_size (blA HB.out)) : w.heap.size ≤ gb116)); clear HB; have HB := n0_; have BK116 := n1_; have GW116 := n2_; have GE116 := n3_; clear n0_ n1_ n2_ n3_; clear hb hbox hg))
 repeat (go_quiet (first | ((with_reducible refine gate_dst (N := 3) rfl ?_); refine box_event ?hg (N := 3) ?hd (cs := #[.int .i64 a1_0, .int .i64 a1_1, .int .i64 a1_2, .int .u64 a1_3, .int .u64 a1_4]) (t := 76) ?hr ?_; (case hd => rfl); (case hg => rfl); (case hr => first | (go_simp; done) | (go_simp; rfl)); intro gb116 hg w3 hbox hb; have n0_ := Aside0.mk (below_step (blA HB.out) hb); have n1_ := Aside0.mk (hbox); have n2_ := Aside0.mk ((by rw [hg]; exact (below_size (blA HB.out)) : w.heap.size ≤ gb116)); have n3_ := Aside0.mk ((by rw [hg]; exact (below_size (blA HB.out)) : w.heap.size ≤ gb116)); clear HB; have HB := n0_; have BK116 := n1_; have GW116 := n2_; have GE116 := n3_; clear n0_ n1_ n2_ n3_; clear hb hbox hg)); try go_wp2_with (first | ((with_reducible refine gate_dst (N := 3) rfl ?_); refine box_event ?hg (N := 3) ?hd (cs := #[.int .i64 a1_0, .int .i64 a1_1, .int .i64 a1_2, .int .u64 a1_3, .int .u64 a1_4]) (t := 76) ?hr ?_; (case hd => rfl); (case hg => rfl); (case hr => first | (go_simp; done) | (go_simp; rfl)); intro gb116 hg w3 hbox hb; have n0_ := Aside0.mk (below_step (blA HB.out) hb); have n1_ := Aside0.mk (hbox); have n2_ := Aside0.mk ((by rw [hg]; exact (below_size (blA HB.out)) : w.heap.size ≤ gb116)); have n3_ := Aside0.mk ((by rw [hg]; exact (below_size (blA HB.out)) : w.heap.size ≤ gb116)); clear HB; have HB := n0_; have BK116 := n1_; have GW116 := n2_; have GE116 := n3_; clear n0_ n1_ n2_ n3_; clear hb hbox hg)))
 go_loopg [8] k (fun kq v8 w' => ∃ (x8_1 : Int), v8 = .int .i64 x8_1 ∧ Aside0 (api_Claim.l0 kq l0 (l0.length : Int) x8_1 a1_0 a1_1 a1_2 a1_3 a1_4 = some r) ∧ Aside0 (kq ≤ k) ∧ Aside0 (w'.heap[gb116]? = some (.cells #[.int .i64 a1_0, .int .i64 a1_1, .int .i64 a1_2, .int .u64 a1_3, .int .u64 a1_4] 76 (0, 0))) ∧ Aside0 (Below w.heap.size w w'))
 case atStart => exact ⟨(0), eqA, H', ⟨Nat.le_refl _⟩, ⟨bkA BK116.out⟩, ⟨blA HB.out⟩⟩
 case round =>
  clear H'; (try clear c1); (try clear p2); obtain ⟨x8_1, rfl, HA, HK1, BK116, HB⟩ := hrel
  cases gk with
  | zero => exact absurd HA.out (by simp [api_Claim.l0])
  | succ k1 =>
   have H := HA.out; clear HA
   simp only [api_Claim.l0] at H
   by_cases c4 : x8_1 < (l0.length : Int)
   ·rw [if_pos c4] at H
    have c4b0 : decide (x8_1 < (l0.length : Int)) = true := decide_eq_true c4; clear c4
    by_cases c5 : 0 ≤ x8_1
    ·rw [if_pos c5] at H
     have c5b0 : decide (0 ≤ x8_1) = true := decide_eq_true c5; clear c5
     by_cases c6 : x8_1 < (l0.length : Int)
     ·rw [if_pos c6] at H
      have c6b0 : decide (x8_1 < (l0.length : Int)) = true := decide_eq_true c6; clear c6
      by_cases c7 : (a1_0 == ((rd_T76 l0 x8_1).f0) && (a1_1 == ((rd_T76 l0 x8_1).f1) && (a1_2 == ((rd_T76 l0 x8_1).f2) && ((a1_3 == ((rd_T76 l0 x8_1).f3.f0) && (a1_4 == ((rd_T76 l0 x8_1).f3.f1))))))) = true
      ·rw [if_pos c7] at H
       have c7b0 : (a1_0 == ((rd_T76 l0 x8_1).f0) && (a1_1 == ((rd_T76 l0 x8_1).f1) && (a1_2 == ((rd_T76 l0 x8_1).f2) && ((a1_3 == ((rd_T76 l0 x8_1).f3.f0) && (a1_4 == ((rd_T76 l0 x8_1).f3.f1))))))) = true := c7
       (try (have c7b1 : decide (a1_0 = ((rd_T76 l0 x8_1).f0) && (a1_1 == ((rd_T76 l0 x8_1).f1) && (a1_2 == ((rd_T76 l0 x8_1).f2) && ((a1_3 == ((rd_T76 l0 x8_1).f3.f0) && (a1_4 == ((rd_T76 l0 x8_1).f3.f1))))))) = true := by simpa using c7))
       (try (have c7b2 : (a1_0 == ((rd_T76 l0 x8_1).f0) && (a1_1 == ((rd_T76 l0 x8_1).f1) && (a1_2 == ((rd_T76 l0 x8_1).f2) && ((a1_3 == ((rd_T76 l0 x8_1).f3.f0) && (a1_4 == ((rd_T76 l0 x8_1).f3.f1))))))) = true := by simpa using c7))
       clear c7; obtain rfl := Option.some.inj H
       have hcz8 := fun i => blk_cell BK116.out i
       have hfz8 := fun i => blk_frozen BK116.out i
       have p117 : 0 ≤ (x8_1 : Int) := of_decide_eq_true (by first | (with_reducible assumption) | assumption)
       have q117 : x8_1 < (l0.length : Int) := of_decide_eq_true (by first | (with_reducible assumption) | assumption)
       obtain ⟨ad117, e117, hx117_0, hx117_1, hx117_2, hx117_3, hx117_4⟩ := at_T76 HR0.out x8_1 p117 q117
       cases e117
       replace hx117_0 := (HB.out.cell (World.block_lt_of_cell? w _ hx117_0)).trans hx117_0; replace hx117_1 := (HB.out.cell (World.block_lt_of_cell? w _ hx117_1)).trans hx117_1; replace hx117_2 := (HB.out.cell (World.block_lt_of_cell? w _ hx117_2)).trans hx117_2; replace hx117_3 := (HB.out.cell (World.block_lt_of_cell? w _ hx117_3)).trans hx117_3; replace hx117_4 := (HB.out.cell (World.block_lt_of_cell? w _ hx117_4)).trans hx117_4; replace p117 := eq_true p117; replace q117 := eq_true q117
       go_wp2
       repeat (go_quiet (fail); try go_wp2)
       go_ret
       exact ⟨by first | rfl | (simp [errW_none, errW_some] <;> rfl) | (simp [*, errW_none, errW_some] <;> rfl), blA HB.out⟩
      ·rw [if_neg c7] at H
       have c7b0 : (a1_0 == ((rd_T76 l0 x8_1).f0) && (a1_1 == ((rd_T76 l0 x8_1).f1) && (a1_2 == ((rd_T76 l0 x8_1).f2) && ((a1_3 == ((rd_T76 l0 x8_1).f3.f0) && (a1_4 == ((rd_T76 l0 x8_1).f3.f1))))))) = false := by simpa using c7
       (try (have c7b1 : decide (a1_0 = ((rd_T76 l0 x8_1).f0) && (a1_1 == ((rd_T76 l0 x8_1).f1) && (a1_2 == ((rd_T76 l0 x8_1).f2) && ((a1_3 == ((rd_T76 l0 x8_1).f3.f0) && (a1_4 == ((rd_T76 l0 x8_1).f3.f1))))))) = false := by simpa using c7))
       (try (have c7b2 : (a1_0 == ((rd_T76 l0 x8_1).f0) && (a1_1 == ((rd_T76 l0 x8_1).f1) && (a1_2 == ((rd_T76 l0 x8_1).f2) && ((a1_3 == ((rd_T76 l0 x8_1).f3.f0) && (a1_4 == ((rd_T76 l0 x8_1).f3.f1))))))) = false := by simpa using c7))
       (try (have c7b3 : ¬ (a1_0 = ((rd_T76 l0 x8_1).f0) && (a1_1 == ((rd_T76 l0 x8_1).f1) && (a1_2 == ((rd_T76 l0 x8_1).f2) && ((a1_3 == ((rd_T76 l0 x8_1).f3.f0) && (a1_4 == ((rd_T76 l0 x8_1).f3.f1))))))) := by simpa using c7))
       clear c7; have H' := Aside0.mk H; clear H
       have hcz9 := fun i => blk_cell BK116.out i
       have hfz9 := fun i => blk_frozen BK116.out i
       have p117 : 0 ≤ (x8_1 : Int) := of_decide_eq_true (by first | (with_reducible assumption) | assumption)
       have q117 : x8_1 < (l0.length : Int) := of_decide_eq_true (by first | (with_reducible assumption) | assumption)
       obtain ⟨ad117, e117, hx117_0, hx117_1, hx117_2, hx117_3, hx117_4⟩ := at_T76 HR0.out x8_1 p117 q117
       cases e117
       replace hx117_0 := (HB.out.cell (World.block_lt_of_cell? w _ hx117_0)).trans hx117_0; replace hx117_1 := (HB.out.cell (World.block_lt_of_cell? w _ hx117_1)).trans hx117_1; replace hx117_2 := (HB.out.cell (World.block_lt_of_cell? w _ hx117_2)).trans hx117_2; replace hx117_3 := (HB.out.cell (World.block_lt_of_cell? w _ hx117_3)).trans hx117_3; replace hx117_4 := (HB.out.cell (World.block_lt_of_cell? w _ hx117_4)).trans hx117_4; replace p117 := eq_true p117; replace q117 := eq_true q117
       go_wp2
       repeat (go_quiet (fail); try go_wp2)
       go_roundg k1
       case measure => have := HK1.out; omega
       case rel => exact ⟨(wrap64 (x8_1 + 1)), eqA, H', ⟨by have := HK1.out; omega⟩, ⟨bkA BK116.out⟩, ⟨blA HB.out⟩⟩
     ·rw [if_neg c6] at H
      exact absurd H (by simp)
    ·rw [if_neg c5] at H
     exact absurd H (by simp)
   ·rw [if_neg c4] at H
    have c4b0 : decide (x8_1 < (l0.length : Int)) = false := decide_eq_false c4; clear c4; obtain rfl := Option.some.inj H
    go_wp2
    repeat (go_quiet (fail); try go_wp2)
    go_ret
    exact ⟨by first | rfl | (simp [errW_none, errW_some] <;> rfl) | (simp [*, errW_none, errW_some] <;> rfl), blA HB.out⟩
end Go.Proofs.Ythiiodgpdoljoaa.PLc
namespace Go.Proofs.Ythiiodgpdoljoaa.PLc
open Go.RowKit Go.Proofs.YthiiodgpdoljoaaW.PrintWords Go.Proofs.YthiiodgpdoljoaaW.PrintLast Go.Proofs.YthiiodgpdoljoaaW.PrintMore
attribute [local go_sem] max2_int min2_int max_two min_two max_three min_three max_four min_four   -- for this text's walks alone
set_option linter.unusedVariables false
set_option linter.unusedSimpArgs false
/-! ### circuit_board_put: function 118 -/
/-- The wires, the conditions, and the one that is being made. -/
structure Bd where
 ws : List S76
 cs : List (List S118)
 l : List S118
def eq76 (a b : S76) : Bool := a.f0 == b.f0 && (a.f1 == b.f1 && (a.f2 == b.f2 && ((a.f3.f0 == b.f3.f0 && a.f3.f1 == b.f3.f1))))
def wIdx (ws : List S76) (x : S76) : Nat := ws.findIdx (eq76 x)
def wAdd (ws : List S76) (x : S76) : List S76 := if wIdx ws x < ws.length then ws else ws ++ [x]
def Bd.wire (b : Bd) (x : S76) : Bd := { b with ws := wAdd b.ws x }
def Bd.put (b : Bd) (o : S118) : Bd := { b with l := b.l ++ [o] }
def Bd.done (b : Bd) : Bd := { b with cs := b.cs ++ [b.l], l := [] }
def opV (n : Int) : S118 := ⟨2, n, 0, ⟨0, 0⟩⟩
def opS (x y : Int) : S118 := ⟨3, x, y, ⟨0, 0⟩⟩
def opP (x y : Int) : S118 := ⟨4, x, y, ⟨0, 0⟩⟩
/-- The board at block g: its three rows are the call's own (from base on); what the conditions lead to is not the row that is being made. -/
def Brd (base : Nat) (w : World) (g : Nat) (b : Bd) : Prop :=
 ∃ vw vc vl : Value, w.heap[g]? = some (.cells #[vw, vc, vl] 108 (0, 0)) ∧ base ≤ g ∧
  Kd.R k76 76 w base (fun _ => True) vw b.ws ∧ Kd.R (Kd.slice 118 k118) 50 w base (fun k => some k ≠ vl.ownBlock) vc b.cs ∧ Kd.R k118 118 w base (fun _ => True) vl b.l
def Bd.Small (b : Bd) (n : Nat) : Prop := b.ws.length ≤ n ∧ b.cs.length ≤ n ∧ b.l.length ≤ n
/-- Blocks other than the board's and its rows (by their types) are as they were. -/
def TK (g : Nat) (w w' : World) : Prop := ∀ (k : Nat) (cells : Array Value) (t : TypeId), w.heap[k]? = some (.cells cells t (0, 0)) → t ≠ 76 → t ≠ 50 → t ≠ 118 → k ≠ g → w'.heap[k]? = some (.cells cells t (0, 0))
theorem TK.refl (g : Nat) (w : World) : TK g w w := fun _ _ _ h _ _ _ _ => h
theorem TK.trans {g : Nat} {w w1 w2 : World} (h : TK g w w1) (h' : TK g w1 w2) : TK g w w2 := fun k cells t hk a b c d => h' k cells t (h k cells t hk a b c d) a b c d
theorem TK.below {g : Nat} {w w1 w2 : World} (h : TK g w w1) (hb : Below w1.heap.size w1 w2) : TK g w w2 := h.trans fun _ _ _ hk _ _ _ _ => blk_below hk hb
theorem TK.grown {g : Nat} {w w1 w2 : World} (h : TK g w w1) {row : Option Nat} (hg : w1.grownBy w2 row) (e : TypeId) (hr : ∀ k, row = some k → ∃ cells, w1.heap[k]? = some (.cells cells e (0, 0))) (he : e = 76 ∨ e = 50 ∨ e = 118) : TK g w w2 :=
 h.trans fun k cells t hk a b c _ => blk_grown hk hg (fun e1 => by
  obtain ⟨cells', hc⟩ := hr k e1.symm
  rw [hk] at hc
  injection hc with hc
  injection hc with _ ht
  rcases he with rfl | rfl | rfl
  ·exact a ht
  ·exact b ht
  ·exact c ht)
theorem TK.set {g : Nat} {w w1 : World} (h : TK g w w1) (j : Nat) (u : Value) : TK g w (w1.setCell ⟨g, j, none⟩ u) :=
 h.trans fun k cells t hk _ _ _ d => blk_far hk d u
structure BrdS (base : Nat) (w0 w : World) (g : Nat) (b : Bd) (n : Nat) : Prop where
 brd : Brd base w g b
 below : Below base w0 w
 small : b.Small n
 kept : TK g w0 w
theorem wAdd_le (ws : List S76) (x : S76) : (wAdd ws x).length ≤ ws.length + 1 := by unfold wAdd; split <;> simp
theorem Bd.Small.wire {b : Bd} {n : Nat} (h : b.Small n) (x : S76) : (b.wire x).Small (n + 1) := ⟨by have := wAdd_le b.ws x; have := h.1; simp only [Bd.wire]; omega, by have := h.2.1; simp only [Bd.wire]; omega, by have := h.2.2; simp only [Bd.wire]; omega⟩
theorem Bd.Small.put {b : Bd} {n : Nat} (h : b.Small n) (x : S118) : (b.put x).Small (n + 1) := ⟨by have := h.1; simp only [Bd.put]; omega, by have := h.2.1; simp only [Bd.put]; omega, by have := h.2.2; simp only [Bd.put, List.length_append, List.length_singleton]; omega⟩
theorem Bd.Small.done {b : Bd} {n : Nat} (h : b.Small n) : (b.done).Small (n + 1) := ⟨by have := h.1; simp only [Bd.done]; omega, by have := h.2.1; simp only [Bd.done, List.length_append, List.length_singleton]; omega, by simp [Bd.done]⟩
theorem ownTyped {w : World} {base : Nat} {ok : Nat → Prop} {v : Value} {α : Type} {d : Kd α} {e : Nat} {xs : List α} (h : Kd.R d e w base ok v xs) {k : Nat} (hk : v.ownBlock = some k) : k < w.heap.size ∧ ∃ cells, w.heap[k]? = some (.cells cells e (0, 0)) := by
 obtain ⟨inner, ho⟩ := Kd.R_own h
 exact ⟨own_lt ho k hk, own_typed ho k hk⟩
/-- A row of other types is apart from a row of type e. -/
theorem apartTyped {w : World} {base : Nat} {ok ok' : Nat → Prop} {v u : Value} {α β : Type} {d : Kd α} {d' : Kd β} {e e' : Nat} {xs : List α} {ys : List β} (h : Kd.R d e w base ok v xs) (h' : Kd.R d' e' w base ok' u ys) (ht : ∀ q, q ∈ e :: d.E → q ≠ e') :
  Kd.R d e w base (fun k => ok k ∧ some k ≠ u.ownBlock) v xs :=
 Kd.R_mono (Kd.R_bound h) (fun k hk => ⟨hk.1, fun e2 => by
  obtain ⟨_, _, _, q, hq, cells, hc⟩ := hk; obtain ⟨_, cells', hc'⟩ := ownTyped h' e2.symm
  rw [hc] at hc'
  injection hc' with hc'
  injection hc' with _ ht'
  exact ht q hq ht'⟩)
theorem Brd.below {base : Nat} {w w1 : World} {g : Nat} {b : Bd} (h : Brd base w g b) (hb : Below w.heap.size w w1) : Brd base w1 g b := by
 obtain ⟨vw, vc, vl, bg, hbg, rw, rc, rl⟩ := h
 exact ⟨vw, vc, vl, blk_below bg hb, hbg, Kd.R_below rw hb, Kd.R_below rc hb, Kd.R_below rl hb⟩
theorem BrdS.step {base : Nat} {w0 w w1 : World} {g : Nat} {b : Bd} {n : Nat} (h : BrdS base w0 w g b n) (hb : Below w.heap.size w w1) : BrdS base w0 w1 g b n := by
 obtain ⟨_, _, _, bg, hbg, _⟩ := id h.brd
 exact ⟨h.brd.below hb, below_then h.below (Nat.le_trans hbg (Nat.le_of_lt (blk_lt bg))) hb, h.small, h.kept.below hb⟩
theorem BrdS.drewN {base : Nat} {w0 w : World} {g : Nat} {b : Bd} {n : Nat} (h : BrdS base w0 w g b n) (m : Nat) : BrdS base w0 (w.drewN m) g b n := h.step (pw_below_drewN (Below.refl _ _) m)
theorem Brd.putP {base : Nat} {w w3 : World} {g : Nat} {vw vc vl v1 : Value} {ws : List S76} {cs : List (List S118)} {l l' : List S118} (bg : w.heap[g]? = some (.cells #[vw, vc, vl] 108 (0, 0))) (hbg : base ≤ g)
  (rw : Kd.R k76 76 w base (fun _ => True) vw ws) (rc : Kd.R (Kd.slice 118 k118) 50 w base (fun k => some k ≠ vl.ownBlock) vc cs) (rl : Kd.R k118 118 w base (fun _ => True) vl l)
  (ho : Kd.R k118 118 w3 base (fun _ => True) v1 l') (hg : w.grownBy w3 vl.ownBlock) (hat : v1.ownBlock = vl.ownBlock ∨ ∃ b, v1.ownBlock = some b ∧ w.heap.size ≤ b) : Brd base (w3.setCell ⟨g, 2, none⟩ v1) g ⟨ws, cs, l'⟩ := by
 have bg3 := blk_grown bg hg (Kd.R_ne rl bg (by decide))
 have rw3 := Kd.R_grown (apartTyped rw rl (by decide)) hg (fun k hk => hk.2)
 have rc3 := Kd.R_mono (Kd.R_grown (Kd.R_bound rc) hg (fun k hk => hk.1)) (ok' := fun k => some k ≠ v1.ownBlock) (fun k hk => by
  rcases hat with e | ⟨b, e, hb⟩
  ·rw [e]; exact hk.1
  ·rw [e]; intro e2; injection e2 with e2; have := hk.2.2.1; omega)
 refine ⟨vw, vc, v1, blk_set bg3 2 v1, hbg, ?_, ?_, ?_⟩
 ·exact Kd.R_mono (Kd.R_set rw3 bg3 (by decide) 2 v1) (fun _ _ => trivial)
 ·exact Kd.R_set rc3 bg3 (by decide) 2 v1
 ·exact Kd.R_set ho bg3 (by decide) 2 v1
theorem Brd.wireP {base : Nat} {w w3 : World} {g : Nat} {vw vc vl v1 : Value} {ws ws' : List S76} {cs : List (List S118)} {l : List S118} (bg : w.heap[g]? = some (.cells #[vw, vc, vl] 108 (0, 0))) (hbg : base ≤ g)
  (rw : Kd.R k76 76 w base (fun _ => True) vw ws) (rc : Kd.R (Kd.slice 118 k118) 50 w base (fun k => some k ≠ vl.ownBlock) vc cs) (rl : Kd.R k118 118 w base (fun _ => True) vl l)
  (ho : Kd.R k76 76 w3 base (fun _ => True) v1 ws') (hg : w.grownBy w3 vw.ownBlock) : Brd base (w3.setCell ⟨g, 0, none⟩ v1) g ⟨ws', cs, l⟩ := by
 have bg3 := blk_grown bg hg (Kd.R_ne rw bg (by decide))
 have rl3 := Kd.R_grown (apartTyped rl rw (by decide)) hg (fun k hk => hk.2)
 have rc3 := Kd.R_mono (Kd.R_grown (apartTyped rc rw (by decide)) hg (fun k hk => hk.2)) (ok' := fun k => some k ≠ vl.ownBlock) (fun k hk => hk.1)
 refine ⟨v1, vc, vl, blk_set bg3 0 v1, hbg, ?_, ?_, ?_⟩
 ·exact Kd.R_set ho bg3 (by decide) 0 v1
 ·exact Kd.R_set rc3 bg3 (by decide) 0 v1
 ·exact Kd.R_mono (Kd.R_set rl3 bg3 (by decide) 0 v1) (fun _ _ => trivial)
theorem Brd.doneP {base : Nat} {w w3 : World} {g : Nat} {vw vc vl v1 : Value} {ws : List S76} {cs cs' : List (List S118)} {l : List S118} (bg : w.heap[g]? = some (.cells #[vw, vc, vl] 108 (0, 0))) (hbg : base ≤ g)
  (rw : Kd.R k76 76 w base (fun _ => True) vw ws) (rc : Kd.R (Kd.slice 118 k118) 50 w base (fun k => some k ≠ vl.ownBlock) vc cs) (rl : Kd.R k118 118 w base (fun _ => True) vl l)
  (ho : Kd.R (Kd.slice 118 k118) 50 w3 base (fun _ => True) v1 cs') (hg : w.grownBy w3 vc.ownBlock) : Brd base ((w3.setCell ⟨g, 1, none⟩ v1).setCell ⟨g, 2, none⟩ (.slice none 0 0)) g ⟨ws, cs', []⟩ := by
 have bg3 := blk_grown bg hg (Kd.R_ne rc bg (by decide))
 have bg4 := blk_set bg3 1 v1
 have rw3 := Kd.R_grown (apartTyped rw rc (by decide)) hg (fun k hk => hk.2)
 refine ⟨vw, v1, .slice none 0 0, blk_set bg4 2 _, hbg, ?_, ?_, ?_⟩
 ·exact Kd.R_mono (Kd.R_set (Kd.R_set rw3 bg3 (by decide) 1 v1) bg4 (by decide) 2 _) (fun _ _ => trivial)
 ·exact Kd.R_mono (Kd.R_set (Kd.R_set ho bg3 (by decide) 1 v1) bg4 (by decide) 2 _) (fun _ _ e => by simp [Value.ownBlock] at e)
 ·exact Kd.R_nil _ _ _ _ _
def circuit_board_put.T1 : Bool × List (List Nat × List Nat) := (true, [([], []), ([], []), ([1], [1]), ([2], [2]), ([3], [3]), ([], []), ([5], [5]), ([4, 6], [4, 6]), ([0, 0, 1, 2, 3, 4, 5, 6, 7], [0]), ([8, 0, 1, 2, 3, 4, 5, 6, 7], [8]), ([9, 7, 7, 0, 1, 2, 3, 4, 5, 6, 7], [7, 9])])
def circuit_board_put.B1 : List Nat := [0, 0, 2, 6, 14, 0, 32, 126, 255, 511, 1023]
theorem circuit_board_put.tab1 : rtab .any (opsOf Try.f118 1) = circuit_board_put.T1 := by kernel_rfl
theorem circuit_board_put.bits1 : waitsOk circuit_board_put.T1.2 circuit_board_put.B1 = true := by kernel_rfl
set_option maxHeartbeats 4000000 in
set_option maxRecDepth 100000 in
theorem circuit_board_put.calls (op : S118) {base n : Nat} {w0 w : World} {g : Nat} {b : Bd} (H : BrdS base w0 w g b n) (hn : n < 100000) :
  Calls Try.prog 118 #[.pointer (some ⟨g, 0, none⟩), .agg #[.int .i64 op.f0, .int .i64 op.f1, .int .i64 op.f2, .int .u64 op.f3.f0, .int .u64 op.f3.f1]] w fun e w' => e = .returned (.int .i64 b.l.length) ∧ BrdS base w0 w' g (b.put op) (n + 1) := by
 obtain ⟨⟨vw, vc, vl, bg, hbg, rw, rc, rl⟩, hB, hS, hT⟩ := H
 have BG := Aside0.mk bg; have HBG := Aside0.mk hbg; have RW := Aside0.mk rw; have RC := Aside0.mk rc; have RL := Aside0.mk rl; have HB := Aside0.mk hB
 have HZ := Aside0.mk (Nat.le_trans hbg (Nat.le_of_lt (blk_lt bg)))
 have hs1 := hS.1; have hs2 := hS.2.1; have hs3 := hS.2.2; have HS := Aside0.mk hS; have KT := Aside0.mk hT
 clear bg hbg rw rc rl hB hS hT; have hu118 := Try.underlying118; have hu108 := Try.underlying108
 go_enter Try.func118, Try.ntmps118
 go_wp2_with ((with_reducible refine gate_dst (N := 3) rfl ?_); refine box_event rfl (N := 3) rfl (cs := #[.int .i64 op.f0, .int .i64 op.f1, .int .i64 op.f2, .int .u64 op.f3.f0, .int .u64 op.f3.f1]) (t := 118) (by first | (go_simp; done) | (go_simp; rfl)) ?_; intro gb hgb w1 hbox hb; have BB := Aside0.mk hbox; have HGB := Aside0.mk hgb; have HBB := Aside0.mk hb; clear hbox hgb hb)
 have NEB : Aside0 (some gb ≠ vl.ownBlock) := Aside0.mk (fun e => by have := (ownTyped RL.out e.symm).1; have := HGB.out; omega)
 replace HB := Aside0.mk (below_then HB.out HZ.out HBB.out); replace KT := Aside0.mk (KT.out.below HBB.out)
 replace BG := Aside0.mk (blk_below BG.out HBB.out); replace RW := Aside0.mk (Kd.R_below RW.out HBB.out); replace RC := Aside0.mk (Kd.R_below RC.out HBB.out); replace RL := Aside0.mk (Kd.R_below RL.out HBB.out)
 refine start_ (n := 11) (S := fun w' => w'.cell? ⟨g, 2, none⟩ = some vl ∧ w'.cell? ⟨gb, 0, none⟩ = some (.int .i64 op.f0) ∧ w'.cell? ⟨gb, 1, none⟩ = some (.int .i64 op.f1) ∧ w'.cell? ⟨gb, 2, none⟩ = some (.int .i64 op.f2) ∧ w'.cell? ⟨gb, 3, none⟩ = some (.int .u64 op.f3.f0) ∧ w'.cell? ⟨gb, 4, none⟩ = some (.int .u64 op.f3.f1)) (ds := [10]) #[false, false, false, false, false, false, false, false, false, false, false] (by kernel_rfl) rfl rfl ⟨(blk_cell (blk_drew BG.out) 2).trans rfl, (blk_cell (blk_drew BB.out) 0).trans rfl, (blk_cell (blk_drew BB.out) 1).trans rfl, (blk_cell (blk_drew BB.out) 2).trans rfl, (blk_cell (blk_drew BB.out) 3).trans rfl, (blk_cell (blk_drew BB.out) 4).trans rfl⟩ (fun hHeld => ?_)
 refine with_tabW circuit_board_put.tab1 circuit_board_put.bits1 (fun HT_ HW_ => ?_)
 replace BG := Aside0.mk (blk_drew BG.out); replace BB := Aside0.mk (blk_drew BB.out); replace RW := Aside0.mk (Kd.R_drew RW.out); replace RC := Aside0.mk (Kd.R_drew RC.out); replace RL := Aside0.mk (Kd.R_drew RL.out); replace HB := Aside0.mk (below_drew1 HB.out); replace KT := Aside0.mk (KT.out.below (below_drew (Below.refl _ _)))
 generalize w1.drew = w2 at BG BB RW RC RL HB KT hHeld ⊢
 refine pureA 0 (some 5) HT_.out ?_
 refine pureA 1 (some 6) HT_.out ?_
 refine pureA 2 (some 7) HT_.out ?_
 refine pureA 3 (some 8) HT_.out ?_
 refine takeA 4 (some 9) rfl HT_.out HW_.out hHeld (Or.inl ⟨by rfl, by rintro w' ⟨s0, s1, s2, s3, s4, s5⟩; go_simp; with_reducible rfl⟩) ?_
 refine takeA 5 (some 10) rfl HT_.out HW_.out hHeld (Or.inl ⟨by rfl, by rintro w' ⟨s0, s1, s2, s3, s4, s5⟩; go_simp; with_reducible rfl⟩) ?_
 refine one_ (i := 6) (N := some 11) #[true, true, true, true, true, true, true, false, false, false, false] rfl rfl (one_of HT_.out (by kernel_rfl)) (by decide) (fun K hK => ?_)
 refine value_ (w1 := ?_) (v := ?_) (by rfl) rfl ?_ ?_
 rotate_left 2
 ·go_simp; (constructor <;> rfl)
 refine hK.out _ _ ⟨(blk_cell (blk_alloc BG.out _) 2).trans rfl, (blk_cell (blk_alloc BB.out _) 0).trans rfl, (blk_cell (blk_alloc BB.out _) 1).trans rfl, (blk_cell (blk_alloc BB.out _) 2).trans rfl, (blk_cell (blk_alloc BB.out _) 3).trans rfl, (blk_cell (blk_alloc BB.out _) 4).trans rfl⟩ (fun hHeld => ?_)
 clear hK K
 refine normA ?_
 refine one_ (i := 7) (N := some 12) #[true, true, true, true, true, true, true, true, false, false, false] rfl rfl (one_of HT_.out (by kernel_rfl)) (by decide) (fun K hK => ?_)
 refine Kd.R_append_step k118 (w0 := w0) base (by rfl) (.tmp 9) (.tmp 11) 50 118 (.agg #[(.int .i64 0), (.int .i64 0), (.int .i64 0), (.int .u64 0), (.int .u64 0)]) 40 rfl Try.underlying50 info118 rfl (by decide) (by omega) vl b.l op [.int .i64 op.f0, .int .i64 op.f1, .int .i64 op.f2, .int .u64 op.f3.f0, .int .u64 op.f3.f1] (fun _ => True) (fun _ => False) rfl rfl (k118_mkM _ _ _ op) (fun _ hk => hk.elim) (fun _ _ => trivial) RL.out HB.out (Nat.le_trans HBG.out (Nat.le_of_lt (blk_lt BG.out))) (by omega) ?_
 intro v1 w3 ho hb hg hat
 have BG3 := Aside0.mk (blk_grown BG.out hg (Kd.R_ne RL.out BG.out (by decide))); have BB3 := Aside0.mk (blk_grown BB.out hg NEB.out)
 have KT3 := Aside0.mk ((KT.out.grown hg 118 (fun k hk => (ownTyped RL.out hk).2) (by decide)).set 2 v1)
 have FIN := Aside0.mk (Brd.putP BG.out HBG.out RW.out RC.out RL.out ho hg hat); have HB3 := Aside0.mk hb; have HO := Aside0.mk ho; clear ho hb hg hat
 refine hK.out _ _ ⟨(blk_cell (BG3.out) 2).trans rfl, (blk_cell (BB3.out) 0).trans rfl, (blk_cell (BB3.out) 1).trans rfl, (blk_cell (BB3.out) 2).trans rfl, (blk_cell (BB3.out) 3).trans rfl, (blk_cell (BB3.out) 4).trans rfl⟩ (fun hHeld => ?_)
 clear hK K
 refine normA ?_
 refine pureA 8 (some 13) HT_.out ?_
 refine pureA 9 (some 14) HT_.out ?_
 refine last_ (i := 10) (N := none) #[true, true, true, true, true, true, true, true, true, true, true] rfl rfl (one_of HT_.out (by kernel_rfl)) (by decide) (fun K hK => ?_)
 have hs : w3.cell? ⟨g, 2, none⟩ = some vl := (blk_cell BG3.out 2).trans rfl; have hfs := blk_frozen BG3.out 2
 refine skip_ (w1 := w3.setCell ⟨g, 2, none⟩ v1) (by rfl) rfl ?_ ?_
 ·obtain ⟨A1, c1, e1⟩ := Kd.R_slice HO.out; subst e1; go_simp
 refine hK.out _ _ ?_
 clear hK K hs hfs
 refine done_ (done_of HT_.out (by kernel_rfl)) ?_
 obtain ⟨vw', vc', vl', bg, hbg, rw, rc, rl⟩ := FIN.out; obtain ⟨A1, c1, e1⟩ := Kd.R_slice rl; subst e1; have hcl := (blk_cell bg 2).trans rfl; clear bg hbg rw rc rl
 go_wp2
 go_ret
 refine ⟨?_, ?_⟩
 ·simp [List.length_append]
 ·exact ⟨FIN.out, HB3.out.setCell HBG.out _, HS.out.put op, KT3.out⟩
/-! ### circuit_board_sum: function 114 -/
set_option maxHeartbeats 4000000 in
set_option maxRecDepth 100000 in
theorem circuit_board_sum.calls (x : Int) (y : Int) {base n : Nat} {w0 w : World} {g : Nat} {b : Bd} (H : BrdS base w0 w g b n) (hn : n < 100000) :
  Calls Try.prog 114 #[.pointer (some ⟨g, 0, none⟩), .int .i64 x, .int .i64 y] w fun e w' => e = .returned (.int .i64 b.l.length) ∧ BrdS base w0 w' g (b.put (opS x y)) (n + 1) := by
 have HS := Aside0.mk H; clear H
 have hu118 := Try.underlying118; have hu74 := Try.underlying74
 go_enter Try.func114, Try.ntmps114
 go_wp2_with (go_at_call 118; refine (circuit_board_put.calls (opS x y) HS.out hn).mono ?_; rintro e w' ⟨rfl, hb⟩; have HR := Aside0.mk hb; clear hb)
 go_ret
 exact ⟨rfl, HR.out⟩
/-! ### circuit_board_v: function 115 -/
set_option maxHeartbeats 4000000 in
set_option maxRecDepth 100000 in
theorem circuit_board_v.calls (x : Int) {base n : Nat} {w0 w : World} {g : Nat} {b : Bd} (H : BrdS base w0 w g b n) (hn : n < 100000) :
  Calls Try.prog 115 #[.pointer (some ⟨g, 0, none⟩), .int .i64 x] w fun e w' => e = .returned (.int .i64 b.l.length) ∧ BrdS base w0 w' g (b.put (opV x)) (n + 1) := by
 have HS := Aside0.mk H; clear H
 have hu118 := Try.underlying118; have hu74 := Try.underlying74
 go_enter Try.func115, Try.ntmps115
 go_wp2_with (go_at_call 118; refine (circuit_board_put.calls (opV x) HS.out hn).mono ?_; rintro e w' ⟨rfl, hb⟩; have HR := Aside0.mk hb; clear hb)
 go_ret
 exact ⟨rfl, HR.out⟩
end Go.Proofs.Ythiiodgpdoljoaa.PLc
namespace Go.Proofs.Ythiiodgpdoljoaa.PLc
open Go.RowKit Go.Proofs.YthiiodgpdoljoaaW.PrintWords Go.Proofs.YthiiodgpdoljoaaW.PrintLast Go.Proofs.YthiiodgpdoljoaaW.PrintMore
attribute [local go_sem] max2_int min2_int max_two min_two max_three min_three max_four min_four   -- for this text's walks alone
set_option linter.unusedVariables false
set_option linter.unusedSimpArgs false
/-! ### circuit_board_wire: function 113 -/
theorem wrap_ok {i : Int} (h0 : 0 ≤ i) (h : i < 1000000) : wrap64 (i + 1) = i + 1 := by unfold wrap64; omega
theorem rd76_at (ws : List S76) (i : Nat) (h : i < ws.length) : rd_T76 ws (i : Int) = ws[i] := by simp [rd_T76, List.getD_eq_getElem?_getD, h]
theorem claimIndex (ws : List S76) (x : S76) (hn : ws.length < 1000000) (d : Nat) : ∀ (k i : Nat), ws.length - i = d → i ≤ ws.length → d < k → (∀ j, (h : j < ws.length) → j < i → eq76 x ws[j] = false) →
  api_Claim.l0 k ws (ws.length : Int) (i : Int) x.f0 x.f1 x.f2 x.f3.f0 x.f3.f1 = some (if wIdx ws x < ws.length then (wIdx ws x : Int) else -1) := by
 induction d with
 | zero =>
  intro k i hd hi hk hno
  obtain ⟨k, rfl⟩ : ∃ m, k = m + 1 := ⟨k - 1, by omega⟩
  simp only [api_Claim.l0]
  rw [if_neg (by omega), if_neg]
  unfold wIdx
  rw [List.findIdx_lt_length]
  rintro ⟨y, hy, he⟩
  obtain ⟨j, hj, rfl⟩ := List.getElem_of_mem hy
  rw [hno j hj (by omega)] at he
  exact absurd he (by decide)
 | succ d ih =>
  intro k i hd hi hk hno
  obtain ⟨k, rfl⟩ : ∃ m, k = m + 1 := ⟨k - 1, by omega⟩
  have hlt : i < ws.length := by omega
  simp only [api_Claim.l0]
  rw [if_pos (by omega), if_pos (by omega), if_pos (by omega), rd76_at ws i hlt]
  show (if eq76 x ws[i] = true then _ else _) = _
  by_cases he : eq76 x ws[i] = true
  ·have hw : wIdx ws x = i := by
    unfold wIdx
    rw [List.findIdx_eq hlt]
    exact ⟨he, fun j hj => hno j (by omega) hj⟩
   rw [if_pos he, hw, if_pos hlt]
  ·rw [if_neg he, wrap_ok (by omega) (by omega)]
   have := ih k (i + 1) (by omega) (by omega) (by omega) (fun j hj hji => by
    rcases Nat.lt_or_ge j i with h | h
    ·exact hno j hj h
    ·have : j = i := by omega
     subst this
     simpa using he)
   simpa using this
theorem claimIndexF (ws : List S76) (x : S76) (hn : ws.length < 1000000) : api_Claim.f (ws.length + 1) ws x.f0 x.f1 x.f2 x.f3.f0 x.f3.f1 = some (if wIdx ws x < ws.length then (wIdx ws x : Int) else -1) :=
 claimIndex ws x hn ws.length (ws.length + 1) 0 (by omega) (by omega) (by omega) (fun j _ h => by omega)
def circuit_board_wire.T1 : Bool × List (List Nat × List Nat) := (true, [([], []), ([0], [0]), ([1], [1]), ([2], [2]), ([], []), ([3, 4], [3, 4]), ([5, 5, 0, 1, 2, 3, 4, 5], [5])])
def circuit_board_wire.B1 : List Nat := [0, 1, 3, 7, 0, 31, 63]
theorem circuit_board_wire.tab1 : rtab .any (opsOf Try.f113 1) = circuit_board_wire.T1 := by kernel_rfl
theorem circuit_board_wire.bits1 : waitsOk circuit_board_wire.T1.2 circuit_board_wire.B1 = true := by kernel_rfl
def circuit_board_wire.T4 : Bool × List (List Nat × List Nat) := (true, [([], []), ([], []), ([1], [1]), ([2], [2]), ([3], [3]), ([], []), ([5], [5]), ([4, 6], [4, 6]), ([0, 0, 1, 2, 3, 4, 5, 6, 7], [0]), ([8, 0, 1, 2, 3, 4, 5, 6, 7], [8]), ([9, 7, 7, 0, 1, 2, 3, 4, 5, 6, 7], [7, 9])])
def circuit_board_wire.B4 : List Nat := [0, 0, 2, 6, 14, 0, 32, 126, 255, 511, 1023]
theorem circuit_board_wire.tab4 : rtab .any (opsOf Try.f113 4) = circuit_board_wire.T4 := by kernel_rfl
theorem circuit_board_wire.bits4 : waitsOk circuit_board_wire.T4.2 circuit_board_wire.B4 = true := by kernel_rfl
set_option maxHeartbeats 4000000 in
set_option maxRecDepth 100000 in
theorem circuit_board_wire.calls (op : S76) {base n : Nat} {w0 w : World} {g : Nat} {b : Bd} (H : BrdS base w0 w g b n) (hn : n < 100000) :
  Calls Try.prog 113 #[.pointer (some ⟨g, 0, none⟩), .agg #[.int .i64 op.f0, .int .i64 op.f1, .int .i64 op.f2, .int .u64 op.f3.f0, .int .u64 op.f3.f1]] w fun e w' => e = .returned (.int .i64 (wIdx b.ws op)) ∧ BrdS base w0 w' g (b.wire op) (n + 1) := by
 obtain ⟨⟨vw, vc, vl, bg, hbg, rw, rc, rl⟩, hB, hS, hT⟩ := H
 have BG := Aside0.mk bg; have HBG := Aside0.mk hbg; have RW := Aside0.mk rw; have RC := Aside0.mk rc; have RL := Aside0.mk rl; have HB := Aside0.mk hB
 have HZ := Aside0.mk (Nat.le_trans hbg (Nat.le_of_lt (blk_lt bg)))
 have hs1 := hS.1; have hs2 := hS.2.1; have hs3 := hS.2.2; have HS := Aside0.mk hS; have KT := Aside0.mk hT
 clear bg hbg rw rc rl hB hS hT; have hu76 := Try.underlying76; have hu108 := Try.underlying108
 go_enter Try.func113, Try.ntmps113
 go_wp2_with ((with_reducible refine gate_dst (N := 3) rfl ?_); refine box_event rfl (N := 3) rfl (cs := #[.int .i64 op.f0, .int .i64 op.f1, .int .i64 op.f2, .int .u64 op.f3.f0, .int .u64 op.f3.f1]) (t := 76) (by first | (go_simp; done) | (go_simp; rfl)) ?_; intro gb hgb w1 hbox hb; have BB := Aside0.mk hbox; have HGB := Aside0.mk hgb; have HBB := Aside0.mk hb; clear hbox hgb hb)
 have NEB : Aside0 (some gb ≠ vw.ownBlock) := Aside0.mk (fun e => by have := (ownTyped RW.out e.symm).1; have := HGB.out; omega)
 replace HB := Aside0.mk (below_then HB.out HZ.out HBB.out); replace KT := Aside0.mk (KT.out.below HBB.out)
 replace BG := Aside0.mk (blk_below BG.out HBB.out); replace RW := Aside0.mk (Kd.R_below RW.out HBB.out); replace RC := Aside0.mk (Kd.R_below RC.out HBB.out); replace RL := Aside0.mk (Kd.R_below RL.out HBB.out)
 obtain ⟨r, hr, hcase⟩ : ∃ r : Int, api_Claim.f (b.ws.length + 1) b.ws op.f0 op.f1 op.f2 op.f3.f0 op.f3.f1 = some r ∧ ((wIdx b.ws op < b.ws.length ∧ r = (wIdx b.ws op : Int)) ∨ (¬ wIdx b.ws op < b.ws.length ∧ r = -1)) := by
  rw [claimIndexF b.ws op (by omega)]
  by_cases h : wIdx b.ws op < b.ws.length
  ·exact ⟨_, rfl, .inl ⟨h, by rw [if_pos h]⟩⟩
  ·exact ⟨_, rfl, .inr ⟨h, by rw [if_neg h]⟩⟩
 have HR := Aside0.mk hr; have HCASE := Aside0.mk hcase; clear hr hcase
 refine start_ (n := 7) (S := fun w' => w'.cell? ⟨g, 0, none⟩ = some vw ∧ w'.cell? ⟨gb, 0, none⟩ = some (.int .i64 op.f0) ∧ w'.cell? ⟨gb, 1, none⟩ = some (.int .i64 op.f1) ∧ w'.cell? ⟨gb, 2, none⟩ = some (.int .i64 op.f2) ∧ w'.cell? ⟨gb, 3, none⟩ = some (.int .u64 op.f3.f0) ∧ w'.cell? ⟨gb, 4, none⟩ = some (.int .u64 op.f3.f1)) (ds := []) #[false, false, false, false, false, false, false] (by kernel_rfl) rfl rfl ⟨(blk_cell (blk_drew BG.out) 0).trans rfl, (blk_cell (blk_drew BB.out) 0).trans rfl, (blk_cell (blk_drew BB.out) 1).trans rfl, (blk_cell (blk_drew BB.out) 2).trans rfl, (blk_cell (blk_drew BB.out) 3).trans rfl, (blk_cell (blk_drew BB.out) 4).trans rfl⟩ (fun hHeld => ?_)
 refine with_tabW circuit_board_wire.tab1 circuit_board_wire.bits1 (fun HT_ HW_ => ?_)
 replace BG := Aside0.mk (blk_drew BG.out); replace BB := Aside0.mk (blk_drew BB.out); replace RW := Aside0.mk (Kd.R_drew RW.out); replace RC := Aside0.mk (Kd.R_drew RC.out); replace RL := Aside0.mk (Kd.R_drew RL.out); replace HB := Aside0.mk (below_drew1 HB.out); replace KT := Aside0.mk (KT.out.below (below_drew (Below.refl _ _)))
 generalize w1.drew = w2 at BG BB RW RC RL HB KT hHeld ⊢
 refine pureA 0 (some 6) HT_.out ?_
 refine pureA 1 (some 7) HT_.out ?_
 refine pureA 2 (some 8) HT_.out ?_
 refine takeA 3 (some 9) rfl HT_.out HW_.out hHeld (Or.inl ⟨by rfl, by rintro w' ⟨s0, s1, s2, s3, s4, s5⟩; go_simp; with_reducible rfl⟩) ?_
 refine takeA 4 (some 10) rfl HT_.out HW_.out hHeld (Or.inl ⟨by rfl, by rintro w' ⟨s0, s1, s2, s3, s4, s5⟩; go_simp; with_reducible rfl⟩) ?_
 refine one_ (i := 5) (N := some 11) #[true, true, true, true, true, true, false] rfl rfl (one_of HT_.out (by kernel_rfl)) (by decide) (fun K hK => ?_)
 obtain ⟨A1, c1, e1, hc1, RD⟩ := Kd.R_reads RW.out; subst e1
 refine goes_ Try.func134 (by kernel_rfl) rfl #[.slice A1 b.ws.length c1, .agg #[.int .i64 op.f0, .int .i64 op.f1, .int .i64 op.f2, .int .u64 op.f3.f0, .int .u64 op.f3.f1]] (by rfl) rfl rfl (by (try simp only [List.map_toArray, List.map_cons, List.map_nil]); first | done | rfl) ?_
 refine (api_Claim.calls (b.ws.length + 1) A1 c1 b.ws op.f0 op.f1 op.f2 op.f3.f0 op.f3.f1 _ w2 RD hc1 HR.out).mono ?_
 rintro e w3 ⟨rfl, hb⟩
 refine ⟨_, rfl, ?_⟩
 replace KT := Aside0.mk (KT.out.below hb); replace HB := Aside0.mk (below_then HB.out (Nat.le_trans HBG.out (Nat.le_of_lt (blk_lt BG.out))) hb)
 replace BG := Aside0.mk (blk_below BG.out hb); replace BB := Aside0.mk (blk_below BB.out hb); replace RW := Aside0.mk (Kd.R_below RW.out hb); replace RC := Aside0.mk (Kd.R_below RC.out hb); replace RL := Aside0.mk (Kd.R_below RL.out hb)
 clear hb RD
 refine hK.out _ _ ⟨(blk_cell (BG.out) 0).trans rfl, (blk_cell (BB.out) 0).trans rfl, (blk_cell (BB.out) 1).trans rfl, (blk_cell (BB.out) 2).trans rfl, (blk_cell (BB.out) 3).trans rfl, (blk_cell (BB.out) 4).trans rfl⟩ (fun hHeld => ?_)
 clear hK K
 refine normA ?_
 refine pureA 6 (some 5) HT_.out ?_
 refine done_ (done_of HT_.out (by kernel_rfl)) ?_
 rcases HCASE.out with ⟨h1, rfl⟩ | ⟨h1, rfl⟩
 ·go_wp2
  go_ret
  refine ⟨rfl, ⟨⟨_, vc, vl, BG.out, HBG.out, ?_, RC.out, RL.out⟩, HB.out, HS.out.wire op, KT.out⟩⟩
  simp only [Bd.wire, wAdd, if_pos h1]
  exact RW.out
 ·have hw1 : wIdx b.ws op = b.ws.length := by
   have := List.findIdx_le_length (p := eq76 op) (xs := b.ws)
   unfold wIdx at *
   omega
  have HW1 := Aside0.mk hw1; clear h1 hw1 HR
  go_wp2
  clear HCASE hHeld HT_ HW_
  refine start_ (n := 11) (S := fun w' => w'.cell? ⟨g, 0, none⟩ = some (.slice A1 b.ws.length c1) ∧ w'.cell? ⟨gb, 0, none⟩ = some (.int .i64 op.f0) ∧ w'.cell? ⟨gb, 1, none⟩ = some (.int .i64 op.f1) ∧ w'.cell? ⟨gb, 2, none⟩ = some (.int .i64 op.f2) ∧ w'.cell? ⟨gb, 3, none⟩ = some (.int .u64 op.f3.f0) ∧ w'.cell? ⟨gb, 4, none⟩ = some (.int .u64 op.f3.f1)) (ds := [10]) #[false, false, false, false, false, false, false, false, false, false, false] (by kernel_rfl) rfl rfl ⟨(blk_cell (blk_drew BG.out) 0).trans rfl, (blk_cell (blk_drew BB.out) 0).trans rfl, (blk_cell (blk_drew BB.out) 1).trans rfl, (blk_cell (blk_drew BB.out) 2).trans rfl, (blk_cell (blk_drew BB.out) 3).trans rfl, (blk_cell (blk_drew BB.out) 4).trans rfl⟩ (fun hHeld => ?_)
  refine with_tabW circuit_board_wire.tab4 circuit_board_wire.bits4 (fun HT_ HW_ => ?_)
  replace BG := Aside0.mk (blk_drew BG.out); replace BB := Aside0.mk (blk_drew BB.out); replace RW := Aside0.mk (Kd.R_drew RW.out); replace RC := Aside0.mk (Kd.R_drew RC.out); replace RL := Aside0.mk (Kd.R_drew RL.out); replace HB := Aside0.mk (below_drew1 HB.out); replace KT := Aside0.mk (KT.out.below (below_drew (Below.refl _ _)))
  generalize w3.drew = w2 at BG BB RW RC RL HB KT hHeld ⊢
  refine pureA 0 (some 15) HT_.out ?_
  refine pureA 1 (some 16) HT_.out ?_
  refine pureA 2 (some 17) HT_.out ?_
  refine pureA 3 (some 18) HT_.out ?_
  refine takeA 4 (some 19) rfl HT_.out HW_.out hHeld (Or.inl ⟨by rfl, by rintro w' ⟨s0, s1, s2, s3, s4, s5⟩; go_simp; with_reducible rfl⟩) ?_
  refine takeA 5 (some 20) rfl HT_.out HW_.out hHeld (Or.inl ⟨by rfl, by rintro w' ⟨s0, s1, s2, s3, s4, s5⟩; go_simp; with_reducible rfl⟩) ?_
  refine one_ (i := 6) (N := some 21) #[true, true, true, true, true, true, true, false, false, false, false] rfl rfl (one_of HT_.out (by kernel_rfl)) (by decide) (fun K hK => ?_)
  refine value_ (w1 := ?_) (v := ?_) (by rfl) rfl ?_ ?_
  rotate_left 2
  ·go_simp; (constructor <;> rfl)
  refine hK.out _ _ ⟨(blk_cell (blk_alloc BG.out _) 0).trans rfl, (blk_cell (blk_alloc BB.out _) 0).trans rfl, (blk_cell (blk_alloc BB.out _) 1).trans rfl, (blk_cell (blk_alloc BB.out _) 2).trans rfl, (blk_cell (blk_alloc BB.out _) 3).trans rfl, (blk_cell (blk_alloc BB.out _) 4).trans rfl⟩ (fun hHeld => ?_)
  clear hK K
  refine normA ?_
  refine one_ (i := 7) (N := some 22) #[true, true, true, true, true, true, true, true, false, false, false] rfl rfl (one_of HT_.out (by kernel_rfl)) (by decide) (fun K hK => ?_)
  refine Kd.R_append_step k76 (w0 := w0) base (by rfl) (.tmp 19) (.tmp 21) 30 76 (.agg #[(.int .i64 0), (.int .i64 0), (.int .i64 0), (.int .u64 0), (.int .u64 0)]) 40 rfl Try.underlying30 info76 rfl (by decide) (by omega) (.slice A1 b.ws.length c1) b.ws op [.int .i64 op.f0, .int .i64 op.f1, .int .i64 op.f2, .int .u64 op.f3.f0, .int .u64 op.f3.f1] (fun _ => True) (fun _ => False) rfl rfl (k76_mkM _ _ _ op) (fun _ hk => hk.elim) (fun _ _ => trivial) RW.out HB.out (Nat.le_trans HBG.out (Nat.le_of_lt (blk_lt BG.out))) (by omega) ?_
  intro v1 w3 ho hb hg hat
  have BG3 := Aside0.mk (blk_grown BG.out hg (Kd.R_ne RW.out BG.out (by decide))); have BB3 := Aside0.mk (blk_grown BB.out hg NEB.out)
  have KT3 := Aside0.mk ((KT.out.grown hg 76 (fun k hk => (ownTyped RW.out hk).2) (by decide)).set 0 v1)
  have FIN := Aside0.mk (Brd.wireP BG.out HBG.out RW.out RC.out RL.out ho hg); have HB3 := Aside0.mk hb; have HO := Aside0.mk ho; clear ho hb hg hat
  refine hK.out _ _ ⟨(blk_cell (BG3.out) 0).trans rfl, (blk_cell (BB3.out) 0).trans rfl, (blk_cell (BB3.out) 1).trans rfl, (blk_cell (BB3.out) 2).trans rfl, (blk_cell (BB3.out) 3).trans rfl, (blk_cell (BB3.out) 4).trans rfl⟩ (fun hHeld => ?_)
  clear hK K
  refine normA ?_
  refine pureA 8 (some 23) HT_.out ?_
  refine pureA 9 (some 24) HT_.out ?_
  refine last_ (i := 10) (N := none) #[true, true, true, true, true, true, true, true, true, true, true] rfl rfl (one_of HT_.out (by kernel_rfl)) (by decide) (fun K hK => ?_)
  have hs : w3.cell? ⟨g, 0, none⟩ = some (.slice A1 b.ws.length c1) := (blk_cell BG3.out 0).trans rfl; have hfs := blk_frozen BG3.out 0
  refine skip_ (w1 := w3.setCell ⟨g, 0, none⟩ v1) (by rfl) rfl ?_ ?_
  ·obtain ⟨A1, c1, e1⟩ := Kd.R_slice HO.out; subst e1; go_simp
  refine hK.out _ _ ?_
  clear hK K hs hfs
  refine done_ (done_of HT_.out (by kernel_rfl)) ?_
  obtain ⟨vw', vc', vl', bg, hbg, rw, rc, rl⟩ := FIN.out; obtain ⟨A2, c2, e2⟩ := Kd.R_slice rw; subst e2; have hcl := (blk_cell bg 0).trans rfl; clear bg hbg rw rc rl
  go_wp2
  go_ret
  refine ⟨?_, ?_⟩
  ·rw [HW1.out]; simp [List.length_append]
  ·refine ⟨?_, HB3.out.setCell HBG.out _, HS.out.wire op, KT3.out⟩
   have := FIN.out
   simp only [Bd.wire, wAdd, HW1.out, Nat.lt_irrefl, if_false]
   exact this
end Go.Proofs.Ythiiodgpdoljoaa.PLc
namespace Go.Proofs.Ythiiodgpdoljoaa.PLc
open Go.RowKit Go.Proofs.YthiiodgpdoljoaaW.PrintWords Go.Proofs.YthiiodgpdoljoaaW.PrintLast Go.Proofs.YthiiodgpdoljoaaW.PrintMore
attribute [local go_sem] max2_int min2_int max_two min_two max_three min_three max_four min_four   -- for this text's walks alone
set_option linter.unusedVariables false
set_option linter.unusedSimpArgs false
/-! ### circuit_board_done: function 116 -/
def circuit_board_done.T0 : Bool × List (List Nat × List Nat) := (true, [([], []), ([], []), ([1], [1]), ([2], [2]), ([3], [3]), ([], []), ([5], [5]), ([6], [6]), ([7], [7]), ([8], [8]), ([4, 9], [4, 9]), ([0, 0, 1, 2, 3, 4, 5, 6, 7, 8, 9, 10], [0]), ([11, 0, 1, 2, 3, 4, 5, 6, 7, 8, 9, 10], [11]), ([12, 10, 10, 0, 1, 2, 3, 4, 5, 6, 7, 8, 9, 10], [10, 12])])
def circuit_board_done.B0 : List Nat := [0, 0, 2, 6, 14, 0, 32, 96, 224, 480, 1022, 2047, 4095, 8191]
theorem circuit_board_done.tab0 : rtab .any (opsOf Try.f116 0) = circuit_board_done.T0 := by kernel_rfl
theorem circuit_board_done.bits0 : waitsOk circuit_board_done.T0.2 circuit_board_done.B0 = true := by kernel_rfl
set_option maxHeartbeats 4000000 in
set_option maxRecDepth 100000 in
theorem circuit_board_done.calls {base n : Nat} {w0 w : World} {g : Nat} {b : Bd} (H : BrdS base w0 w g b n) (hn : n < 100000) :
  Calls Try.prog 116 #[.pointer (some ⟨g, 0, none⟩)] w fun e w' => e = .returned (.tuple #[]) ∧ BrdS base w0 w' g b.done (n + 1) := by
 obtain ⟨⟨vw, vc, vl, bg, hbg, rw, rc, rl⟩, hB, hS, hT⟩ := H
 have BG := Aside0.mk bg; have HBG := Aside0.mk hbg; have RW := Aside0.mk rw; have RC := Aside0.mk rc; have RL := Aside0.mk rl; have HB := Aside0.mk hB
 have HZ := Aside0.mk (Nat.le_trans hbg (Nat.le_of_lt (blk_lt bg)))
 have hs1 := hS.1; have hs2 := hS.2.1; have hs3 := hS.2.2; have HS := Aside0.mk hS; have KT := Aside0.mk hT
 clear bg hbg rw rc rl hB hS hT; have hu108 := Try.underlying108; obtain ⟨A0, c0, e0⟩ := Kd.R_slice RL.out; subst e0
 go_enter Try.func116, Try.ntmps116
 (try go_wp2_with fail)
 refine start_ (n := 14) (S := fun w' => w'.cell? ⟨g, 1, none⟩ = some vc ∧ w'.cell? ⟨g, 2, none⟩ = some (.slice A0 b.l.length c0)) (ds := [13]) #[false, false, false, false, false, false, false, false, false, false, false, false, false, false] (by kernel_rfl) rfl rfl ⟨(blk_cell (blk_drew BG.out) 1).trans rfl, (blk_cell (blk_drew BG.out) 2).trans rfl⟩ (fun hHeld => ?_)
 refine with_tabW circuit_board_done.tab0 circuit_board_done.bits0 (fun HT_ HW_ => ?_)
 replace BG := Aside0.mk (blk_drew BG.out); replace RW := Aside0.mk (Kd.R_drew RW.out); replace RC := Aside0.mk (Kd.R_drew RC.out); replace RL := Aside0.mk (Kd.R_drew RL.out); replace HB := Aside0.mk (below_drew1 HB.out); replace KT := Aside0.mk (KT.out.below (below_drew (Below.refl _ _)))
 generalize w.drew = w2 at BG RW RC RL HB KT hHeld ⊢
 refine pureA 0 (some 2) HT_.out ?_
 refine pureA 1 (some 3) HT_.out ?_
 refine pureA 2 (some 4) HT_.out ?_
 refine pureA 3 (some 5) HT_.out ?_
 refine takeA 4 (some 6) rfl HT_.out HW_.out hHeld (Or.inl ⟨by rfl, by rintro w' ⟨s0, s1⟩; go_simp; with_reducible rfl⟩) ?_
 refine pureA 5 (some 7) HT_.out ?_
 refine pureA 6 (some 8) HT_.out ?_
 refine pureA 7 (some 9) HT_.out ?_
 refine takeA 8 (some 10) rfl HT_.out HW_.out hHeld (Or.inl ⟨by rfl, by rintro w' ⟨s0, s1⟩; go_simp; with_reducible rfl⟩) ?_
 refine one_ (i := 9) (N := some 11) #[true, true, true, true, true, true, true, true, true, true, false, false, false, false] rfl rfl (one_of HT_.out (by kernel_rfl)) (by decide) (fun K hK => ?_)
 refine value_ (w1 := ?_) (v := ?_) (by rfl) rfl ?_ ?_
 rotate_left 2
 ·go_simp; (constructor <;> rfl)
 refine hK.out _ _ ⟨(blk_cell (blk_alloc BG.out _) 1).trans rfl, (blk_cell (blk_alloc BG.out _) 2).trans rfl⟩ (fun hHeld => ?_)
 clear hK K
 refine normA ?_
 refine one_ (i := 10) (N := some 12) #[true, true, true, true, true, true, true, true, true, true, true, false, false, false] rfl rfl (one_of HT_.out (by kernel_rfl)) (by decide) (fun K hK => ?_)
 refine Kd.R_append_step (Kd.slice 118 k118) (w0 := w0) base (by rfl) (.tmp 6) (.tmp 11) 34 50 (.slice none 0 0) 24 rfl Try.underlying34 info50 rfl (by decide) (by omega) vc b.cs b.l [.slice A0 b.l.length c0] (fun _ => True) (fun k => some k ≠ vc.ownBlock) rfl rfl ⟨.slice A0 b.l.length c0, rfl, Kd.R_mono (apartTyped RL.out RC.out (by decide)) (fun k hk => hk.2)⟩ (fun _ hk => ⟨trivial, hk⟩) (fun _ _ => trivial) (Kd.R_mono RC.out (fun _ _ => trivial)) HB.out (Nat.le_trans HBG.out (Nat.le_of_lt (blk_lt BG.out))) (by omega) ?_
 intro v1 w3 ho hb hg hat
 have BG3 := Aside0.mk (blk_grown BG.out hg (Kd.R_ne RC.out BG.out (by decide)))
 have KT3 := Aside0.mk (((KT.out.grown hg 50 (fun k hk => (ownTyped RC.out hk).2) (by decide)).set 1 v1).set 2 (.slice none 0 0))
 have FIN := Aside0.mk (Brd.doneP BG.out HBG.out RW.out RC.out RL.out ho hg); have HB3 := Aside0.mk hb; have HO := Aside0.mk ho; clear ho hb hg hat
 refine hK.out _ _ ⟨(blk_cell (BG3.out) 1).trans rfl, (blk_cell (BG3.out) 2).trans rfl⟩ (fun hHeld => ?_)
 clear hK K
 refine normA ?_
 refine pureA 11 (some 13) HT_.out ?_
 refine pureA 12 (some 14) HT_.out ?_
 refine last_ (i := 13) (N := none) #[true, true, true, true, true, true, true, true, true, true, true, true, true, true] rfl rfl (one_of HT_.out (by kernel_rfl)) (by decide) (fun K hK => ?_)
 have hs : w3.cell? ⟨g, 1, none⟩ = some vc := (blk_cell BG3.out 1).trans rfl; have hfs := blk_frozen BG3.out 1
 refine skip_ (w1 := w3.setCell ⟨g, 1, none⟩ v1) (by rfl) rfl ?_ ?_
 ·obtain ⟨A1, c1, e1⟩ := Kd.R_slice HO.out; subst e1; go_simp
 refine hK.out _ _ ?_
 clear hK K hs hfs
 refine done_ (done_of HT_.out (by kernel_rfl)) ?_
 have hc2 := (blk_cell (blk_set BG3.out 1 v1) 2).trans rfl; have hf2 := blk_frozen (blk_set BG3.out 1 v1) 2; clear HT_ HW_ hHeld
 go_wp2
 (first | go_end0 | ((try simp only [Exit.inBlock, Exit.then]); refine bodyPost_ret (results_none rfl _ _ _) rfl ?_))
 exact ⟨rfl, FIN.out, (HB3.out.setCell HBG.out _).setCell HBG.out _, HS.out.done, KT3.out⟩
/-! ### circuit_board_prod: function 119 -/
set_option maxHeartbeats 4000000 in
set_option maxRecDepth 100000 in
theorem circuit_board_prod.calls (x : Int) (y : Int) {base n : Nat} {w0 w : World} {g : Nat} {b : Bd} (H : BrdS base w0 w g b n) (hn : n < 100000) :
  Calls Try.prog 119 #[.pointer (some ⟨g, 0, none⟩), .int .i64 x, .int .i64 y] w fun e w' => e = .returned (.int .i64 b.l.length) ∧ BrdS base w0 w' g (b.put (opP x y)) (n + 1) := by
 have HS := Aside0.mk H; clear H
 have hu118 := Try.underlying118; have hu74 := Try.underlying74
 go_enter Try.func119, Try.ntmps119
 go_wp2_with (go_at_call 118; refine (circuit_board_put.calls (opP x y) HS.out hn).mono ?_; rintro e w' ⟨rfl, hb⟩; have HR := Aside0.mk hb; clear hb)
 go_ret
 exact ⟨rfl, HR.out⟩
end Go.Proofs.Ythiiodgpdoljoaa.PLc
namespace Go.Proofs.Ythiiodgpdoljoaa.PLc
open Go.RowKit Go.Proofs.YthiiodgpdoljoaaW.PrintWords Go.Proofs.YthiiodgpdoljoaaW.PrintLast Go.Proofs.YthiiodgpdoljoaaW.PrintMore
attribute [local go_sem] max2_int min2_int max_two min_two max_three min_three max_four min_four   -- for this text's walks alone
set_option linter.unusedVariables false
set_option linter.unusedSimpArgs false
/-! ### circuit_board_add: function 120 -/
@[reducible] def cl (c : Int) : S76 := ⟨c, 0, 0, ⟨0, 0⟩⟩
@[reducible] def clk (c k s : Int) : S76 := ⟨c, k, s, ⟨0, 0⟩⟩
def gate8 (b : Bd) (_d a c _s : Int) : Bd :=
 let x : Int := wIdx b.ws (cl a); let b := b.wire (cl a)
 let y : Int := wIdx b.ws (cl c); let b := b.wire (cl c)
 let i : Int := b.l.length; let b := b.put (opV x)
 let j : Int := b.l.length; let b := b.put (opV y)
 let b := b.put (opS i j)
 b.done
def gateT (b : Bd) (r d a _c s : Int) : Bd :=
 let x : Int := wIdx b.ws (cl d); let b := b.wire (cl d)
 let y : Int := wIdx b.ws (clk a r s); let b := b.wire (clk a r s)
 let i : Int := b.l.length; let b := b.put (opV x)
 let j : Int := b.l.length; let b := b.put (opV y)
 let b := b.put (opS i j)
 b.done
def gate3 (b : Bd) (d a _c _s : Int) : Bd :=
 let x : Int := wIdx b.ws (cl d); let b := b.wire (cl d)
 let y : Int := wIdx b.ws (cl a); let b := b.wire (cl a)
 let i : Int := b.l.length; let b := b.put (opV x)
 let j : Int := b.l.length; let b := b.put (opV y)
 let m : Int := b.l.length; let b := b.put (opS i j)
 let n : Int := b.l.length; let b := b.put ⟨1, 0, 0, ⟨0, 1⟩⟩
 let b := b.put (opS m n)
 b.done
def gate1 (b : Bd) (d a c _s : Int) : Bd :=
 let x : Int := wIdx b.ws (cl d); let b := b.wire (cl d)
 let y : Int := wIdx b.ws (cl a); let b := b.wire (cl a)
 let z : Int := wIdx b.ws (cl c); let b := b.wire (cl c)
 let i : Int := b.l.length; let b := b.put (opV x)
 let j : Int := b.l.length; let b := b.put (opV y)
 let m : Int := b.l.length; let b := b.put (opS i j)
 let n : Int := b.l.length; let b := b.put (opV z)
 let b := b.put (opS m n)
 b.done
def gate2 (b : Bd) (d a c _s : Int) : Bd :=
 let x : Int := wIdx b.ws (cl d); let b := b.wire (cl d)
 let y : Int := wIdx b.ws (cl a); let b := b.wire (cl a)
 let z : Int := wIdx b.ws (cl c); let b := b.wire (cl c)
 let i : Int := b.l.length; let b := b.put (opV x)
 let j : Int := b.l.length; let b := b.put (opV y)
 let m : Int := b.l.length; let b := b.put (opV z)
 let n : Int := b.l.length; let b := b.put (opP j m)
 let b := b.put (opS i n)
 b.done
def add0 (b : Bd) (c s x y0 : Int) : Bd :=
 let y : Int := wIdx b.ws (cl c); let b := b.wire (cl c)
 let k : Int := wIdx b.ws (cl s); let b := b.wire (cl s)
 let i : Int := b.l.length; let b := b.put (opV x)
 let j : Int := b.l.length; let b := b.put (opV y0)
 let m : Int := b.l.length; let b := b.put (opS i j)
 let n : Int := b.l.length; let b := b.put (opV y)
 let b := b.put (opS m n)
 let b := b.done
 let i : Int := b.l.length; let b := b.put (opV k)
 let j : Int := b.l.length; let b := b.put (opV y0)
 let m : Int := b.l.length; let b := b.put (opV y)
 let n : Int := b.l.length; let b := b.put (opP j m)
 b.put (opS i n)
def add1 (b : Bd) (c s x y0 : Int) : Bd :=
 let y : Int := wIdx b.ws (cl c); let b := b.wire (cl c)
 let k : Int := wIdx b.ws (cl s); let b := b.wire (cl s)
 let t : Int := wIdx b.ws (clk s 1 1); let b := b.wire (clk s 1 1)
 let i : Int := b.l.length; let b := b.put (opV x)
 let j : Int := b.l.length; let b := b.put (opV y0)
 let m : Int := b.l.length; let b := b.put (opS i j)
 let n : Int := b.l.length; let b := b.put (opV y)
 let i : Int := b.l.length; let b := b.put (opS m n)
 let j : Int := b.l.length; let b := b.put (opV t)
 let b := b.put (opS i j)
 let b := b.done
 let i : Int := b.l.length; let b := b.put (opV k)
 let j : Int := b.l.length; let b := b.put (opV y0)
 let m : Int := b.l.length; let b := b.put (opV y)
 let n : Int := b.l.length; let b := b.put (opP j m)
 let e : Int := b.l.length; let b := b.put (opS i n)
 let z : Int := b.l.length; let b := b.put (opV t)
 let j : Int := b.l.length; let b := b.put (opV y0)
 let m : Int := b.l.length; let b := b.put (opV y)
 let q : Int := b.l.length; let b := b.put (opS j m)
 let r : Int := b.l.length; let b := b.put (opP z q)
 b.put (opS e r)
def gate7 (b : Bd) (w d a c s : Int) : Bd :=
 let x : Int := wIdx b.ws (cl d); let b := b.wire (cl d)
 let y : Int := wIdx b.ws (cl a); let b := b.wire (cl a)
 (if w = 0 then add0 b c s x y else add1 b c s x y).done
theorem BrdS.ne {base : Nat} {w0 w : World} {g : Nat} {b : Bd} {n k : Nat} {cells : Array Value} {t : TypeId} (h : BrdS base w0 w g b n) (hk : w.heap[k]? = some (.cells cells t (0, 0))) (ht : t ≠ 108) : k ≠ g := by
 obtain ⟨_, _, _, bg, _⟩ := h.brd
 exact blk_ne hk bg ht
theorem Bd.Small.mono {b : Bd} {n m : Nat} (h : b.Small n) (hm : n ≤ m) : b.Small m := ⟨by have := h.1; omega, by have := h.2.1; omega, by have := h.2.2; omega⟩
theorem BrdS.back {base : Nat} {w0 w wa wb w' : World} {g : Nat} {b b' : Bd} {n m k : Nat} (H : BrdS base w0 w g b n) (ha : Below w.heap.size w wa) (hb : Below wa.heap.size wa wb) (h : BrdS base wb w' g b' m) (hm : m ≤ k) : BrdS base w0 w' g b' k :=
 have h2 := (H.step ha).step hb
 ⟨h.brd, h2.below.trans h.below, h.small.mono hm, h2.kept.trans h.kept⟩
def circuit_board_add.T1 : Bool × List (List Nat × List Nat) := (true, [([], []), ([], []), ([1], [1]), ([2], [2]), ([0, 3], [0, 3]), ([], []), ([], []), ([6], [6]), ([7], [7]), ([5, 8, 4], [5, 8]), ([4, 9, 0, 1, 2, 3, 4], [4]), ([9, 10, 0, 1, 2, 3, 4, 5, 6, 7, 8, 9, 10], [9])])
def circuit_board_add.B1 : List Nat := [0, 0, 2, 6, 15, 0, 0, 64, 192, 511, 1023, 2047]
theorem circuit_board_add.tab1 : rtab .any (opsOf Try.f120 1) = circuit_board_add.T1 := by kernel_rfl
theorem circuit_board_add.bits1 : waitsOk circuit_board_add.T1.2 circuit_board_add.B1 = true := by kernel_rfl
set_option maxHeartbeats 4000000 in
set_option maxRecDepth 100000 in
theorem add0.calls (s0 s1 s2 s3 s4 : Int) (As : Option Addr) (ns cs : Nat) (d a c s x y : Int) {base n : Nat} {w0 w : World} {g : Nat} {b : Bd} (H : BrdS base w0 w g b n) (hn : n < 90000) (hw : (s0 == 0) = true) :
  Calls Try.prog 120 #[.pointer (some ⟨g, 0, none⟩), .agg #[.int .i64 s0, .int .i64 s1, .int .i64 s2, .int .i64 s3, .int .i64 s4, .slice As ns cs], .agg #[.int .i64 7, .int .i64 d, .int .i64 a, .int .i64 c, .int .i64 s], .int .i64 x, .int .i64 y] w fun e w' => e = .returned (.tuple #[]) ∧ BrdS base w0 w' g (add0 b c s x y) (n + 50) := by
 have H0 := Aside0.mk H; clear H
 have hu24 := Try.underlying24; have hu105 := Try.underlying105; have hu76 := Try.underlying76; have hu74 := Try.underlying74; have hu118 := Try.underlying118
 go_enter Try.func120, Try.ntmps120
 go_wp2_with (first | ((with_reducible refine gate_dst (N := 6) rfl ?_); refine box_event rfl (N := 6) rfl (cs := #[.int .i64 s0, .int .i64 s1, .int .i64 s2, .int .i64 s3, .int .i64 s4, .slice As ns cs]) (t := 24) (by first | (go_simp; done) | (go_simp; rfl)) ?_; intro gs hgs wgs hbox hb; have BKgs := Aside0.mk hbox; have HBgs := Aside0.mk hb; clear hbox hb hgs; have hcs0 := (blk_cell BKgs.out 0).trans rfl) | ((with_reducible refine gate_dst (N := 7) rfl ?_); refine box_event rfl (N := 7) rfl (cs := #[.int .i64 7, .int .i64 d, .int .i64 a, .int .i64 c, .int .i64 s]) (t := 105) (by first | (go_simp; done) | (go_simp; rfl)) ?_; intro gg hgg wgg hbox hb; have BKgg := Aside0.mk hbox; have HBgg := Aside0.mk hb; clear hbox hb hgg; replace BKgs := Aside0.mk (blk_below BKgs.out HBgg.out); have HS := Aside0.mk (⟨(H0.out.brd.below HBgs.out).below HBgg.out, Below.refl _ _, H0.out.small, TK.refl _ _⟩ : BrdS base wgg wgg g b n); have NGg := Aside0.mk (HS.out.ne BKgg.out (by decide)); have NGs := Aside0.mk (HS.out.ne BKgs.out (by decide)); have hcg0 := (blk_cell BKgg.out 0).trans rfl; have hcg1 := (blk_cell BKgg.out 1).trans rfl; have hcg2 := (blk_cell BKgg.out 2).trans rfl; have hcg3 := (blk_cell BKgg.out 3).trans rfl; have hcg4 := (blk_cell BKgg.out 4).trans rfl; have hcs0 := (blk_cell BKgs.out 0).trans rfl))
 clear hcs0 hcg0 hcg1 hcg2 hcg3 hcg4
 refine start_ (n := 12) (S := fun w' => w'.cell? ⟨gg, 3, none⟩ = some (.int .i64 c) ∧ w'.cell? ⟨gg, 4, none⟩ = some (.int .i64 s)) (ds := []) #[false, false, false, false, false, false, false, false, false, false, false, false] (by kernel_rfl) rfl rfl ⟨(blk_cell (blk_drew (HS.out.kept gg _ 105 BKgg.out (by decide) (by decide) (by decide) NGg.out)) 3).trans rfl, (blk_cell (blk_drew (HS.out.kept gg _ 105 BKgg.out (by decide) (by decide) (by decide) NGg.out)) 4).trans rfl⟩ (fun hHeld => ?_)
 refine with_tabW circuit_board_add.tab1 circuit_board_add.bits1 (fun HT_ HW_ => ?_)
 replace HS := Aside0.mk (HS.out.step (below_drew (Below.refl _ _)))
 generalize wgg.drew = wd at HS hHeld ⊢
 refine pureA 0 (some 15) HT_.out ?_
 refine pureA 1 (some 16) HT_.out ?_
 refine takeA 2 (some 17) rfl HT_.out HW_.out hHeld (Or.inl ⟨by rfl, by rintro w' ⟨s0, s1⟩; go_simp; with_reducible rfl⟩) ?_
 refine pureA 3 (some 18) HT_.out ?_
 refine pureA 5 (some 20) HT_.out ?_
 refine pureA 6 (some 21) HT_.out ?_
 refine takeA 7 (some 22) rfl HT_.out HW_.out hHeld (Or.inl ⟨by rfl, by rintro w' ⟨s0, s1⟩; go_simp; with_reducible rfl⟩) ?_
 refine pureA 8 (some 23) HT_.out ?_
 refine one_ (i := 4) (N := some 19) #[true, true, true, true, true, true, true, true, true, false, false, false] rfl rfl (one_of HT_.out (by kernel_rfl)) (by decide) (fun K hK => ?_)
 refine goes_ Try.func113 (by kernel_rfl) rfl #[.pointer (some ⟨g, 0, none⟩), .agg #[.int .i64 c, .int .i64 0, .int .i64 0, .int .u64 0, .int .u64 0]] (by rfl) rfl rfl (by (try simp only [List.map_toArray, List.map_cons, List.map_nil]); first | done | rfl) ?_
 refine (circuit_board_wire.calls (cl c) HS.out (by omega)).mono ?_
 rintro e w' ⟨rfl, hb⟩; replace HS := Aside0.mk hb; clear hb; refine ⟨_, rfl, ?_⟩
 refine hK.out _ _ ⟨(blk_cell (HS.out.kept gg _ 105 BKgg.out (by decide) (by decide) (by decide) NGg.out) 3).trans rfl, (blk_cell (HS.out.kept gg _ 105 BKgg.out (by decide) (by decide) (by decide) NGg.out) 4).trans rfl⟩ (fun hHeld => ?_)
 clear hK K
 refine normA ?_
 refine one_ (i := 9) (N := some 24) #[true, true, true, true, true, true, true, true, true, true, false, false] rfl rfl (one_of HT_.out (by kernel_rfl)) (by decide) (fun K hK => ?_)
 refine goes_ Try.func113 (by kernel_rfl) rfl #[.pointer (some ⟨g, 0, none⟩), .agg #[.int .i64 s, .int .i64 0, .int .i64 0, .int .u64 0, .int .u64 0]] (by rfl) rfl rfl (by (try simp only [List.map_toArray, List.map_cons, List.map_nil]); first | done | rfl) ?_
 refine (circuit_board_wire.calls (cl s) HS.out (by omega)).mono ?_
 rintro e w' ⟨rfl, hb⟩; replace HS := Aside0.mk hb; clear hb; refine ⟨_, rfl, ?_⟩
 refine hK.out _ _ ⟨(blk_cell (HS.out.kept gg _ 105 BKgg.out (by decide) (by decide) (by decide) NGg.out) 3).trans rfl, (blk_cell (HS.out.kept gg _ 105 BKgg.out (by decide) (by decide) (by decide) NGg.out) 4).trans rfl⟩ (fun hHeld => ?_)
 clear hK K
 refine normA ?_
 refine pureA 10 (some 10) HT_.out ?_
 refine pureA 11 (some 11) HT_.out ?_
 refine done_ (done_of HT_.out (by kernel_rfl)) ?_
 clear HT_ HW_ hHeld
 have BKg_ := HS.out.kept gg _ 105 BKgg.out (by decide) (by decide) (by decide) NGg.out; have BKs_ := HS.out.kept gs _ 24 BKgs.out (by decide) (by decide) (by decide) NGs.out; have hcg0 := (blk_cell BKg_ 0).trans rfl; have hcg1 := (blk_cell BKg_ 1).trans rfl; have hcg2 := (blk_cell BKg_ 2).trans rfl; have hcg3 := (blk_cell BKg_ 3).trans rfl; have hcg4 := (blk_cell BKg_ 4).trans rfl; have hcs0 := (blk_cell BKs_ 0).trans rfl; clear BKg_ BKs_
 go_wp2_with (first | (go_at_call 113; (with_reducible refine (circuit_board_wire.calls (clk s 1 1) HS.out (by omega)).mono ?_); rintro e w' ⟨rfl, hb⟩; replace HS := Aside0.mk hb; clear hb; have BKg_ := HS.out.kept gg _ 105 BKgg.out (by decide) (by decide) (by decide) NGg.out; have BKs_ := HS.out.kept gs _ 24 BKgs.out (by decide) (by decide) (by decide) NGs.out; have hcg0 := (blk_cell BKg_ 0).trans rfl; have hcg1 := (blk_cell BKg_ 1).trans rfl; have hcg2 := (blk_cell BKg_ 2).trans rfl; have hcg3 := (blk_cell BKg_ 3).trans rfl; have hcg4 := (blk_cell BKg_ 4).trans rfl; have hcs0 := (blk_cell BKs_ 0).trans rfl; clear BKg_ BKs_) | (go_at_call 115; refine (circuit_board_v.calls _ HS.out (by omega)).mono ?_; rintro e w' ⟨rfl, hb⟩; replace HS := Aside0.mk hb; clear hb; have BKg_ := HS.out.kept gg _ 105 BKgg.out (by decide) (by decide) (by decide) NGg.out; have BKs_ := HS.out.kept gs _ 24 BKgs.out (by decide) (by decide) (by decide) NGs.out; have hcg0 := (blk_cell BKg_ 0).trans rfl; have hcg1 := (blk_cell BKg_ 1).trans rfl; have hcg2 := (blk_cell BKg_ 2).trans rfl; have hcg3 := (blk_cell BKg_ 3).trans rfl; have hcg4 := (blk_cell BKg_ 4).trans rfl; have hcs0 := (blk_cell BKs_ 0).trans rfl; clear BKg_ BKs_) | (go_at_call 114; refine (circuit_board_sum.calls _ _ HS.out (by omega)).mono ?_; rintro e w' ⟨rfl, hb⟩; replace HS := Aside0.mk hb; clear hb; have BKg_ := HS.out.kept gg _ 105 BKgg.out (by decide) (by decide) (by decide) NGg.out; have BKs_ := HS.out.kept gs _ 24 BKgs.out (by decide) (by decide) (by decide) NGs.out; have hcg0 := (blk_cell BKg_ 0).trans rfl; have hcg1 := (blk_cell BKg_ 1).trans rfl; have hcg2 := (blk_cell BKg_ 2).trans rfl; have hcg3 := (blk_cell BKg_ 3).trans rfl; have hcg4 := (blk_cell BKg_ 4).trans rfl; have hcs0 := (blk_cell BKs_ 0).trans rfl; clear BKg_ BKs_) | (go_at_call 119; refine (circuit_board_prod.calls _ _ HS.out (by omega)).mono ?_; rintro e w' ⟨rfl, hb⟩; replace HS := Aside0.mk hb; clear hb; have BKg_ := HS.out.kept gg _ 105 BKgg.out (by decide) (by decide) (by decide) NGg.out; have BKs_ := HS.out.kept gs _ 24 BKgs.out (by decide) (by decide) (by decide) NGs.out; have hcg0 := (blk_cell BKg_ 0).trans rfl; have hcg1 := (blk_cell BKg_ 1).trans rfl; have hcg2 := (blk_cell BKg_ 2).trans rfl; have hcg3 := (blk_cell BKg_ 3).trans rfl; have hcg4 := (blk_cell BKg_ 4).trans rfl; have hcs0 := (blk_cell BKs_ 0).trans rfl; clear BKg_ BKs_) | (go_at_call 116; refine (circuit_board_done.calls  HS.out (by omega)).mono ?_; rintro e w' ⟨rfl, hb⟩; replace HS := Aside0.mk hb; clear hb; have BKg_ := HS.out.kept gg _ 105 BKgg.out (by decide) (by decide) (by decide) NGg.out; have BKs_ := HS.out.kept gs _ 24 BKgs.out (by decide) (by decide) (by decide) NGs.out; have hcg0 := (blk_cell BKg_ 0).trans rfl; have hcg1 := (blk_cell BKg_ 1).trans rfl; have hcg2 := (blk_cell BKg_ 2).trans rfl; have hcg3 := (blk_cell BKg_ 3).trans rfl; have hcg4 := (blk_cell BKg_ 4).trans rfl; have hcs0 := (blk_cell BKs_ 0).trans rfl; clear BKg_ BKs_))
 (first | go_end0 | ((try simp only [Exit.inBlock, Exit.then]); refine bodyPost_ret (results_none rfl _ _ _) rfl ?_))
 exact ⟨rfl, BrdS.back H0.out HBgs.out HBgg.out HS.out (by omega)⟩
set_option maxHeartbeats 4000000 in
set_option maxRecDepth 100000 in
theorem add1.calls (s0 s1 s2 s3 s4 : Int) (As : Option Addr) (ns cs : Nat) (d a c s x y : Int) {base n : Nat} {w0 w : World} {g : Nat} {b : Bd} (H : BrdS base w0 w g b n) (hn : n < 90000) (hw : (s0 == 0) = false) :
  Calls Try.prog 120 #[.pointer (some ⟨g, 0, none⟩), .agg #[.int .i64 s0, .int .i64 s1, .int .i64 s2, .int .i64 s3, .int .i64 s4, .slice As ns cs], .agg #[.int .i64 7, .int .i64 d, .int .i64 a, .int .i64 c, .int .i64 s], .int .i64 x, .int .i64 y] w fun e w' => e = .returned (.tuple #[]) ∧ BrdS base w0 w' g (add1 b c s x y) (n + 50) := by
 have H0 := Aside0.mk H; clear H
 have hu24 := Try.underlying24; have hu105 := Try.underlying105; have hu76 := Try.underlying76; have hu74 := Try.underlying74; have hu118 := Try.underlying118
 go_enter Try.func120, Try.ntmps120
 go_wp2_with (first | ((with_reducible refine gate_dst (N := 6) rfl ?_); refine box_event rfl (N := 6) rfl (cs := #[.int .i64 s0, .int .i64 s1, .int .i64 s2, .int .i64 s3, .int .i64 s4, .slice As ns cs]) (t := 24) (by first | (go_simp; done) | (go_simp; rfl)) ?_; intro gs hgs wgs hbox hb; have BKgs := Aside0.mk hbox; have HBgs := Aside0.mk hb; clear hbox hb hgs; have hcs0 := (blk_cell BKgs.out 0).trans rfl) | ((with_reducible refine gate_dst (N := 7) rfl ?_); refine box_event rfl (N := 7) rfl (cs := #[.int .i64 7, .int .i64 d, .int .i64 a, .int .i64 c, .int .i64 s]) (t := 105) (by first | (go_simp; done) | (go_simp; rfl)) ?_; intro gg hgg wgg hbox hb; have BKgg := Aside0.mk hbox; have HBgg := Aside0.mk hb; clear hbox hb hgg; replace BKgs := Aside0.mk (blk_below BKgs.out HBgg.out); have HS := Aside0.mk (⟨(H0.out.brd.below HBgs.out).below HBgg.out, Below.refl _ _, H0.out.small, TK.refl _ _⟩ : BrdS base wgg wgg g b n); have NGg := Aside0.mk (HS.out.ne BKgg.out (by decide)); have NGs := Aside0.mk (HS.out.ne BKgs.out (by decide)); have hcg0 := (blk_cell BKgg.out 0).trans rfl; have hcg1 := (blk_cell BKgg.out 1).trans rfl; have hcg2 := (blk_cell BKgg.out 2).trans rfl; have hcg3 := (blk_cell BKgg.out 3).trans rfl; have hcg4 := (blk_cell BKgg.out 4).trans rfl; have hcs0 := (blk_cell BKgs.out 0).trans rfl))
 clear hcs0 hcg0 hcg1 hcg2 hcg3 hcg4
 refine start_ (n := 12) (S := fun w' => w'.cell? ⟨gg, 3, none⟩ = some (.int .i64 c) ∧ w'.cell? ⟨gg, 4, none⟩ = some (.int .i64 s)) (ds := []) #[false, false, false, false, false, false, false, false, false, false, false, false] (by kernel_rfl) rfl rfl ⟨(blk_cell (blk_drew (HS.out.kept gg _ 105 BKgg.out (by decide) (by decide) (by decide) NGg.out)) 3).trans rfl, (blk_cell (blk_drew (HS.out.kept gg _ 105 BKgg.out (by decide) (by decide) (by decide) NGg.out)) 4).trans rfl⟩ (fun hHeld => ?_)
 refine with_tabW circuit_board_add.tab1 circuit_board_add.bits1 (fun HT_ HW_ => ?_)
 replace HS := Aside0.mk (HS.out.step (below_drew (Below.refl _ _)))
 generalize wgg.drew = wd at HS hHeld ⊢
 refine pureA 0 (some 15) HT_.out ?_
 refine pureA 1 (some 16) HT_.out ?_
 refine takeA 2 (some 17) rfl HT_.out HW_.out hHeld (Or.inl ⟨by rfl, by rintro w' ⟨s0, s1⟩; go_simp; with_reducible rfl⟩) ?_
 refine pureA 3 (some 18) HT_.out ?_
 refine pureA 5 (some 20) HT_.out ?_
 refine pureA 6 (some 21) HT_.out ?_
 refine takeA 7 (some 22) rfl HT_.out HW_.out hHeld (Or.inl ⟨by rfl, by rintro w' ⟨s0, s1⟩; go_simp; with_reducible rfl⟩) ?_
 refine pureA 8 (some 23) HT_.out ?_
 refine one_ (i := 4) (N := some 19) #[true, true, true, true, true, true, true, true, true, false, false, false] rfl rfl (one_of HT_.out (by kernel_rfl)) (by decide) (fun K hK => ?_)
 refine goes_ Try.func113 (by kernel_rfl) rfl #[.pointer (some ⟨g, 0, none⟩), .agg #[.int .i64 c, .int .i64 0, .int .i64 0, .int .u64 0, .int .u64 0]] (by rfl) rfl rfl (by (try simp only [List.map_toArray, List.map_cons, List.map_nil]); first | done | rfl) ?_
 refine (circuit_board_wire.calls (cl c) HS.out (by omega)).mono ?_
 rintro e w' ⟨rfl, hb⟩; replace HS := Aside0.mk hb; clear hb; refine ⟨_, rfl, ?_⟩
 refine hK.out _ _ ⟨(blk_cell (HS.out.kept gg _ 105 BKgg.out (by decide) (by decide) (by decide) NGg.out) 3).trans rfl, (blk_cell (HS.out.kept gg _ 105 BKgg.out (by decide) (by decide) (by decide) NGg.out) 4).trans rfl⟩ (fun hHeld => ?_)
 clear hK K
 refine normA ?_
 refine one_ (i := 9) (N := some 24) #[true, true, true, true, true, true, true, true, true, true, false, false] rfl rfl (one_of HT_.out (by kernel_rfl)) (by decide) (fun K hK => ?_)
 refine goes_ Try.func113 (by kernel_rfl) rfl #[.pointer (some ⟨g, 0, none⟩), .agg #[.int .i64 s, .int .i64 0, .int .i64 0, .int .u64 0, .int .u64 0]] (by rfl) rfl rfl (by (try simp only [List.map_toArray, List.map_cons, List.map_nil]); first | done | rfl) ?_
 refine (circuit_board_wire.calls (cl s) HS.out (by omega)).mono ?_
 rintro e w' ⟨rfl, hb⟩; replace HS := Aside0.mk hb; clear hb; refine ⟨_, rfl, ?_⟩
 refine hK.out _ _ ⟨(blk_cell (HS.out.kept gg _ 105 BKgg.out (by decide) (by decide) (by decide) NGg.out) 3).trans rfl, (blk_cell (HS.out.kept gg _ 105 BKgg.out (by decide) (by decide) (by decide) NGg.out) 4).trans rfl⟩ (fun hHeld => ?_)
 clear hK K
 refine normA ?_
 refine pureA 10 (some 10) HT_.out ?_
 refine pureA 11 (some 11) HT_.out ?_
 refine done_ (done_of HT_.out (by kernel_rfl)) ?_
 clear HT_ HW_ hHeld
 have BKg_ := HS.out.kept gg _ 105 BKgg.out (by decide) (by decide) (by decide) NGg.out; have BKs_ := HS.out.kept gs _ 24 BKgs.out (by decide) (by decide) (by decide) NGs.out; have hcg0 := (blk_cell BKg_ 0).trans rfl; have hcg1 := (blk_cell BKg_ 1).trans rfl; have hcg2 := (blk_cell BKg_ 2).trans rfl; have hcg3 := (blk_cell BKg_ 3).trans rfl; have hcg4 := (blk_cell BKg_ 4).trans rfl; have hcs0 := (blk_cell BKs_ 0).trans rfl; clear BKg_ BKs_
 go_wp2_with (first | (go_at_call 113; (with_reducible refine (circuit_board_wire.calls (clk s 1 1) HS.out (by omega)).mono ?_); rintro e w' ⟨rfl, hb⟩; replace HS := Aside0.mk hb; clear hb; have BKg_ := HS.out.kept gg _ 105 BKgg.out (by decide) (by decide) (by decide) NGg.out; have BKs_ := HS.out.kept gs _ 24 BKgs.out (by decide) (by decide) (by decide) NGs.out; have hcg0 := (blk_cell BKg_ 0).trans rfl; have hcg1 := (blk_cell BKg_ 1).trans rfl; have hcg2 := (blk_cell BKg_ 2).trans rfl; have hcg3 := (blk_cell BKg_ 3).trans rfl; have hcg4 := (blk_cell BKg_ 4).trans rfl; have hcs0 := (blk_cell BKs_ 0).trans rfl; clear BKg_ BKs_) | (go_at_call 115; refine (circuit_board_v.calls _ HS.out (by omega)).mono ?_; rintro e w' ⟨rfl, hb⟩; replace HS := Aside0.mk hb; clear hb; have BKg_ := HS.out.kept gg _ 105 BKgg.out (by decide) (by decide) (by decide) NGg.out; have BKs_ := HS.out.kept gs _ 24 BKgs.out (by decide) (by decide) (by decide) NGs.out; have hcg0 := (blk_cell BKg_ 0).trans rfl; have hcg1 := (blk_cell BKg_ 1).trans rfl; have hcg2 := (blk_cell BKg_ 2).trans rfl; have hcg3 := (blk_cell BKg_ 3).trans rfl; have hcg4 := (blk_cell BKg_ 4).trans rfl; have hcs0 := (blk_cell BKs_ 0).trans rfl; clear BKg_ BKs_) | (go_at_call 114; refine (circuit_board_sum.calls _ _ HS.out (by omega)).mono ?_; rintro e w' ⟨rfl, hb⟩; replace HS := Aside0.mk hb; clear hb; have BKg_ := HS.out.kept gg _ 105 BKgg.out (by decide) (by decide) (by decide) NGg.out; have BKs_ := HS.out.kept gs _ 24 BKgs.out (by decide) (by decide) (by decide) NGs.out; have hcg0 := (blk_cell BKg_ 0).trans rfl; have hcg1 := (blk_cell BKg_ 1).trans rfl; have hcg2 := (blk_cell BKg_ 2).trans rfl; have hcg3 := (blk_cell BKg_ 3).trans rfl; have hcg4 := (blk_cell BKg_ 4).trans rfl; have hcs0 := (blk_cell BKs_ 0).trans rfl; clear BKg_ BKs_) | (go_at_call 119; refine (circuit_board_prod.calls _ _ HS.out (by omega)).mono ?_; rintro e w' ⟨rfl, hb⟩; replace HS := Aside0.mk hb; clear hb; have BKg_ := HS.out.kept gg _ 105 BKgg.out (by decide) (by decide) (by decide) NGg.out; have BKs_ := HS.out.kept gs _ 24 BKgs.out (by decide) (by decide) (by decide) NGs.out; have hcg0 := (blk_cell BKg_ 0).trans rfl; have hcg1 := (blk_cell BKg_ 1).trans rfl; have hcg2 := (blk_cell BKg_ 2).trans rfl; have hcg3 := (blk_cell BKg_ 3).trans rfl; have hcg4 := (blk_cell BKg_ 4).trans rfl; have hcs0 := (blk_cell BKs_ 0).trans rfl; clear BKg_ BKs_) | (go_at_call 116; refine (circuit_board_done.calls  HS.out (by omega)).mono ?_; rintro e w' ⟨rfl, hb⟩; replace HS := Aside0.mk hb; clear hb; have BKg_ := HS.out.kept gg _ 105 BKgg.out (by decide) (by decide) (by decide) NGg.out; have BKs_ := HS.out.kept gs _ 24 BKgs.out (by decide) (by decide) (by decide) NGs.out; have hcg0 := (blk_cell BKg_ 0).trans rfl; have hcg1 := (blk_cell BKg_ 1).trans rfl; have hcg2 := (blk_cell BKg_ 2).trans rfl; have hcg3 := (blk_cell BKg_ 3).trans rfl; have hcg4 := (blk_cell BKg_ 4).trans rfl; have hcs0 := (blk_cell BKs_ 0).trans rfl; clear BKg_ BKs_))
 (first | go_end0 | ((try simp only [Exit.inBlock, Exit.then]); refine bodyPost_ret (results_none rfl _ _ _) rfl ?_))
 exact ⟨rfl, BrdS.back H0.out HBgs.out HBgg.out HS.out (by omega)⟩
end Go.Proofs.Ythiiodgpdoljoaa.PLc
