import Derived.Test.YthiiodgpdoljoaaKo2
import Derived.Test.YthiiodgpdoljoaaKo1
import Derived.Test.YthiiodgpdoljoaaKo4
import Derived.Test.YthiiodgpdoljoaaKo3
-- Words and walks that the kit's print has laid for this seat, cut down, and our own texts, merged.
namespace Go.Proofs.Ythiiodgpdoljoaa.PLw
open Go.RowKit Go.Proofs.YthiiodgpdoljoaaW.PrintWords Go.Proofs.YthiiodgpdoljoaaW.PrintLast Go.Proofs.YthiiodgpdoljoaaW.PrintMore
attribute [local go_sem] max2_int min2_int max_two min_two max_three min_three max_four min_four   -- for this text's walks alone
set_option linter.unusedVariables false
set_option linter.unusedSimpArgs false
/-! ### steepleref25_System_Gate: function 59 -/
mutual
def steepleref25_System_Gate.j0 : Nat → Int → Bool → Int → Int → Int → Int → Int → List (S106) → Int → Int → Int → Int → Int → Option (Int)
 | 0, _, _, _, _, _, _, _, _, _, _, _, _, _ => none
 | k + 1, x2, x14, x111000, x111001, x111002, x111003, x111004, x111005, x112000, x112001, x112002, x112003, x112004 => if x14 = true then (some 3) else ((steepleref25_two.f x112000).bind fun t112 => (if t112 = true then (if x112000 = 8 then (if x112001 = 0 then ((steepleref25_shifts.f x112000).bind fun t113 => (if t113 = true then (steepleref25_System_Gate.j1 k x2 false x111000 x111001 x111002 x111003 x111004 x111005 x112000 x112001 x112002 x112003 x112004) else (if x112000 = 7 then (steepleref25_System_Gate.j1 k x2 false x111000 x111001 x111002 x111003 x111004 x111005 x112000 x112001 x112002 x112003 x112004) else (steepleref25_System_Gate.j1 k x2 (x112004 != 0) x111000 x111001 x111002 x111003 x111004 x111005 x112000 x112001 x112002 x112003 x112004)))) else (steepleref25_System_Gate.j1 k x2 true x111000 x111001 x111002 x111003 x111004 x111005 x112000 x112001 x112002 x112003 x112004)) else ((steepleref25_shifts.f x112000).bind fun t114 => (if t114 = true then (steepleref25_System_Gate.j1 k x2 false x111000 x111001 x111002 x111003 x111004 x111005 x112000 x112001 x112002 x112003 x112004) else (if x112000 = 7 then (steepleref25_System_Gate.j1 k x2 false x111000 x111001 x111002 x111003 x111004 x111005 x112000 x112001 x112002 x112003 x112004) else (steepleref25_System_Gate.j1 k x2 (x112004 != 0) x111000 x111001 x111002 x111003 x111004 x111005 x112000 x112001 x112002 x112003 x112004))))) else (if x112003 = 0 then (if x112000 = 8 then (if x112001 = 0 then ((steepleref25_shifts.f x112000).bind fun t115 => (if t115 = true then (steepleref25_System_Gate.j1 k x2 false x111000 x111001 x111002 x111003 x111004 x111005 x112000 x112001 x112002 x112003 x112004) else (if x112000 = 7 then (steepleref25_System_Gate.j1 k x2 false x111000 x111001 x111002 x111003 x111004 x111005 x112000 x112001 x112002 x112003 x112004) else (steepleref25_System_Gate.j1 k x2 (x112004 != 0) x111000 x111001 x111002 x111003 x111004 x111005 x112000 x112001 x112002 x112003 x112004)))) else (steepleref25_System_Gate.j1 k x2 true x111000 x111001 x111002 x111003 x111004 x111005 x112000 x112001 x112002 x112003 x112004)) else ((steepleref25_shifts.f x112000).bind fun t116 => (if t116 = true then (steepleref25_System_Gate.j1 k x2 false x111000 x111001 x111002 x111003 x111004 x111005 x112000 x112001 x112002 x112003 x112004) else (if x112000 = 7 then (steepleref25_System_Gate.j1 k x2 false x111000 x111001 x111002 x111003 x111004 x111005 x112000 x112001 x112002 x112003 x112004) else (steepleref25_System_Gate.j1 k x2 (x112004 != 0) x111000 x111001 x111002 x111003 x111004 x111005 x112000 x112001 x112002 x112003 x112004))))) else (steepleref25_System_Gate.j1 k x2 true x111000 x111001 x111002 x111003 x111004 x111005 x112000 x112001 x112002 x112003 x112004))))
def steepleref25_System_Gate.j1 : Nat → Int → Bool → Int → Int → Int → Int → Int → List (S106) → Int → Int → Int → Int → Int → Option (Int)
 | 0, _, _, _, _, _, _, _, _, _, _, _, _, _ => none
 | k + 1, x2, x49, x111000, x111001, x111002, x111003, x111004, x111005, x112000, x112001, x112002, x112003, x112004 => if x49 = true then (some 3) else (if x112002 < 0 then (steepleref25_System_Gate.j2 k x2 true x111000 x111001 x111002 x111003 x111004 x111005 x112000 x112001 x112002 x112003 x112004) else (if x112002 ≥ x2 then (steepleref25_System_Gate.j2 k x2 true x111000 x111001 x111002 x111003 x111004 x111005 x112000 x112001 x112002 x112003 x112004) else ((steepleref25_two.f x112000).bind fun t117 => (if t117 = true then (if x112003 < 0 then (steepleref25_System_Gate.j2 k x2 true x111000 x111001 x111002 x111003 x111004 x111005 x112000 x112001 x112002 x112003 x112004) else (steepleref25_System_Gate.j2 k x2 (decide (x112003 ≥ x2)) x111000 x111001 x111002 x111003 x111004 x111005 x112000 x112001 x112002 x112003 x112004)) else (steepleref25_System_Gate.j2 k x2 false x111000 x111001 x111002 x111003 x111004 x111005 x112000 x112001 x112002 x112003 x112004)))))
def steepleref25_System_Gate.j2 : Nat → Int → Bool → Int → Int → Int → Int → Int → List (S106) → Int → Int → Int → Int → Int → Option (Int)
 | 0, _, _, _, _, _, _, _, _, _, _, _, _, _ => none
 | k + 1, x2, x74, x111000, x111001, x111002, x111003, x111004, x111005, x112000, x112001, x112002, x112003, x112004 => if x74 = true then (some 4) else ((steepleref25_shifts.f x112000).bind fun t118 => (if t118 = true then ((steepleref18_Fits.f k (wrap64 (x112000 - 3)) x111000 x112004).bind fun t119 => (steepleref25_System_Gate.j3 k x2 (!t119) x111000 x111001 x111002 x111003 x111004 x111005 x112000 x112001 x112002 x112003 x112004)) else (steepleref25_System_Gate.j3 k x2 false x111000 x111001 x111002 x111003 x111004 x111005 x112000 x112001 x112002 x112003 x112004)))
def steepleref25_System_Gate.j3 : Nat → Int → Bool → Int → Int → Int → Int → Int → List (S106) → Int → Int → Int → Int → Int → Option (Int)
 | 0, _, _, _, _, _, _, _, _, _, _, _, _, _ => none
 | k + 1, x2, x88, x111000, x111001, x111002, x111003, x111004, x111005, x112000, x112001, x112002, x112003, x112004 => if x88 = true then (some 1) else (if x112000 = 8 then (if x112000 = 7 then (steepleref25_System_Gate.j4 k x2 (x112004 != (wrap64 (x2 + 1))) x111000 x111001 x111002 x111003 x111004 x111005 x112000 x112001 x112002 x112003 x112004) else (steepleref25_System_Gate.j4 k x2 false x111000 x111001 x111002 x111003 x111004 x111005 x112000 x112001 x112002 x112003 x112004)) else (if x112001 = x2 then (if x112000 = 7 then (steepleref25_System_Gate.j4 k x2 (x112004 != (wrap64 (x2 + 1))) x111000 x111001 x111002 x111003 x111004 x111005 x112000 x112001 x112002 x112003 x112004) else (steepleref25_System_Gate.j4 k x2 false x111000 x111001 x111002 x111003 x111004 x111005 x112000 x112001 x112002 x112003 x112004)) else (steepleref25_System_Gate.j4 k x2 true x111000 x111001 x111002 x111003 x111004 x111005 x112000 x112001 x112002 x112003 x112004)))
def steepleref25_System_Gate.j4 : Nat → Int → Bool → Int → Int → Int → Int → Int → List (S106) → Int → Int → Int → Int → Int → Option (Int)
 | 0, _, _, _, _, _, _, _, _, _, _, _, _, _ => none
 | k + 1, x2, x109, x111000, x111001, x111002, x111003, x111004, x111005, x112000, x112001, x112002, x112003, x112004 => if x109 = true then (some 3) else ((steepleref25_Makes.f x112000 x112001 x112002 x112003 x112004).bind fun t120 => ((steepleref15_Two.f k x111002).bind fun t121 => (if (wrap64 (x2 + t120)) > t121 then (some 2) else (some 0))))
end
def steepleref25_System_Gate.f (k : Nat) (a0_0 : Int) (a0_1 : Int) (a0_2 : Int) (a0_3 : Int) (a0_4 : Int) (l0_5 : List (S106)) (a1_0 : Int) (a1_1 : Int) (a1_2 : Int) (a1_3 : Int) (a1_4 : Int) (a2 : Int) : Option (Int) := if a1_0 < 1 then (steepleref25_System_Gate.j0 k a2 true a0_0 a0_1 a0_2 a0_3 a0_4 l0_5 a1_0 a1_1 a1_2 a1_3 a1_4) else (steepleref25_System_Gate.j0 k a2 (decide (a1_0 > 8)) a0_0 a0_1 a0_2 a0_3 a0_4 l0_5 a1_0 a1_1 a1_2 a1_3 a1_4)
theorem steepleref25_System_Gate.mono_l : ∀ k, (∀ y0 y1 y2 y3 y4 y5 y6 y7 y8 y9 y10 y11 y12, LeO (steepleref25_System_Gate.j0 k y0 y1 y2 y3 y4 y5 y6 y7 y8 y9 y10 y11 y12) (steepleref25_System_Gate.j0 (k + 1) y0 y1 y2 y3 y4 y5 y6 y7 y8 y9 y10 y11 y12)) ∧ (∀ y0 y1 y2 y3 y4 y5 y6 y7 y8 y9 y10 y11 y12, LeO (steepleref25_System_Gate.j1 k y0 y1 y2 y3 y4 y5 y6 y7 y8 y9 y10 y11 y12) (steepleref25_System_Gate.j1 (k + 1) y0 y1 y2 y3 y4 y5 y6 y7 y8 y9 y10 y11 y12)) ∧ (∀ y0 y1 y2 y3 y4 y5 y6 y7 y8 y9 y10 y11 y12, LeO (steepleref25_System_Gate.j2 k y0 y1 y2 y3 y4 y5 y6 y7 y8 y9 y10 y11 y12) (steepleref25_System_Gate.j2 (k + 1) y0 y1 y2 y3 y4 y5 y6 y7 y8 y9 y10 y11 y12)) ∧ (∀ y0 y1 y2 y3 y4 y5 y6 y7 y8 y9 y10 y11 y12, LeO (steepleref25_System_Gate.j3 k y0 y1 y2 y3 y4 y5 y6 y7 y8 y9 y10 y11 y12) (steepleref25_System_Gate.j3 (k + 1) y0 y1 y2 y3 y4 y5 y6 y7 y8 y9 y10 y11 y12)) ∧ (∀ y0 y1 y2 y3 y4 y5 y6 y7 y8 y9 y10 y11 y12, LeO (steepleref25_System_Gate.j4 k y0 y1 y2 y3 y4 y5 y6 y7 y8 y9 y10 y11 y12) (steepleref25_System_Gate.j4 (k + 1) y0 y1 y2 y3 y4 y5 y6 y7 y8 y9 y10 y11 y12))
 | 0 => ⟨fun _ _ _ _ _ _ _ _ _ _ _ _ _ r h => by simp [steepleref25_System_Gate.j0] at h, fun _ _ _ _ _ _ _ _ _ _ _ _ _ r h => by simp [steepleref25_System_Gate.j1] at h, fun _ _ _ _ _ _ _ _ _ _ _ _ _ r h => by simp [steepleref25_System_Gate.j2] at h, fun _ _ _ _ _ _ _ _ _ _ _ _ _ r h => by simp [steepleref25_System_Gate.j3] at h, fun _ _ _ _ _ _ _ _ _ _ _ _ _ r h => by simp [steepleref25_System_Gate.j4] at h⟩
 | k + 1 => by
  obtain ⟨ih0, ih1, ih2, ih3, ih4⟩ := steepleref25_System_Gate.mono_l k
  refine ⟨?_, ?_, ?_, ?_, ?_⟩
  ·intro y0 y1 y2 y3 y4 y5 y6 y7 y8 y9 y10 y11 y12
   unfold steepleref25_System_Gate.j0
   repeat' first
   | (with_reducible exact ih0 _ _ _ _ _ _ _ _ _ _ _ _ _)
   | (with_reducible exact ih1 _ _ _ _ _ _ _ _ _ _ _ _ _)
   | (with_reducible exact ih2 _ _ _ _ _ _ _ _ _ _ _ _ _)
   | (with_reducible exact ih3 _ _ _ _ _ _ _ _ _ _ _ _ _)
   | (with_reducible exact ih4 _ _ _ _ _ _ _ _ _ _ _ _ _)
   | (with_reducible exact steepleref15_Two.mono _ _)
   | (with_reducible exact steepleref18_Fits.mono _ _ _ _)
   | (with_reducible exact LeO.refl _)
   | (with_reducible exact LeO.none _)
   | (with_reducible refine LeO.ite ?_ ?_)
   | (with_reducible refine LeO.bind ?_ (fun _ => ?_))
   | exact ih0 _ _ _ _ _ _ _ _ _ _ _ _ _
   | exact ih1 _ _ _ _ _ _ _ _ _ _ _ _ _
   | exact ih2 _ _ _ _ _ _ _ _ _ _ _ _ _
   | exact ih3 _ _ _ _ _ _ _ _ _ _ _ _ _
   | exact ih4 _ _ _ _ _ _ _ _ _ _ _ _ _
   | exact steepleref15_Two.mono _ _
   | exact steepleref18_Fits.mono _ _ _ _
   | exact LeO.none _
   | refine LeO.ite ?_ ?_
   | refine LeO.bind ?_ (fun _ => ?_)
  ·intro y0 y1 y2 y3 y4 y5 y6 y7 y8 y9 y10 y11 y12
   unfold steepleref25_System_Gate.j1
   repeat' first
   | (with_reducible exact ih0 _ _ _ _ _ _ _ _ _ _ _ _ _)
   | (with_reducible exact ih1 _ _ _ _ _ _ _ _ _ _ _ _ _)
   | (with_reducible exact ih2 _ _ _ _ _ _ _ _ _ _ _ _ _)
   | (with_reducible exact ih3 _ _ _ _ _ _ _ _ _ _ _ _ _)
   | (with_reducible exact ih4 _ _ _ _ _ _ _ _ _ _ _ _ _)
   | (with_reducible exact steepleref15_Two.mono _ _)
   | (with_reducible exact steepleref18_Fits.mono _ _ _ _)
   | (with_reducible exact LeO.refl _)
   | (with_reducible exact LeO.none _)
   | (with_reducible refine LeO.ite ?_ ?_)
   | (with_reducible refine LeO.bind ?_ (fun _ => ?_))
   | exact ih0 _ _ _ _ _ _ _ _ _ _ _ _ _
   | exact ih1 _ _ _ _ _ _ _ _ _ _ _ _ _
   | exact ih2 _ _ _ _ _ _ _ _ _ _ _ _ _
   | exact ih3 _ _ _ _ _ _ _ _ _ _ _ _ _
   | exact ih4 _ _ _ _ _ _ _ _ _ _ _ _ _
   | exact steepleref15_Two.mono _ _
   | exact steepleref18_Fits.mono _ _ _ _
   | exact LeO.none _
   | refine LeO.ite ?_ ?_
   | refine LeO.bind ?_ (fun _ => ?_)
  ·intro y0 y1 y2 y3 y4 y5 y6 y7 y8 y9 y10 y11 y12
   unfold steepleref25_System_Gate.j2
   repeat' first
   | (with_reducible exact ih0 _ _ _ _ _ _ _ _ _ _ _ _ _)
   | (with_reducible exact ih1 _ _ _ _ _ _ _ _ _ _ _ _ _)
   | (with_reducible exact ih2 _ _ _ _ _ _ _ _ _ _ _ _ _)
   | (with_reducible exact ih3 _ _ _ _ _ _ _ _ _ _ _ _ _)
   | (with_reducible exact ih4 _ _ _ _ _ _ _ _ _ _ _ _ _)
   | (with_reducible exact steepleref15_Two.mono _ _)
   | (with_reducible exact steepleref18_Fits.mono _ _ _ _)
   | (with_reducible exact LeO.refl _)
   | (with_reducible exact LeO.none _)
   | (with_reducible refine LeO.ite ?_ ?_)
   | (with_reducible refine LeO.bind ?_ (fun _ => ?_))
   | exact ih0 _ _ _ _ _ _ _ _ _ _ _ _ _
   | exact ih1 _ _ _ _ _ _ _ _ _ _ _ _ _
   | exact ih2 _ _ _ _ _ _ _ _ _ _ _ _ _
   | exact ih3 _ _ _ _ _ _ _ _ _ _ _ _ _
   | exact ih4 _ _ _ _ _ _ _ _ _ _ _ _ _
   | exact steepleref15_Two.mono _ _
   | exact steepleref18_Fits.mono _ _ _ _
   | exact LeO.none _
   | refine LeO.ite ?_ ?_
   | refine LeO.bind ?_ (fun _ => ?_)
  ·intro y0 y1 y2 y3 y4 y5 y6 y7 y8 y9 y10 y11 y12
   unfold steepleref25_System_Gate.j3
   repeat' first
   | (with_reducible exact ih0 _ _ _ _ _ _ _ _ _ _ _ _ _)
   | (with_reducible exact ih1 _ _ _ _ _ _ _ _ _ _ _ _ _)
   | (with_reducible exact ih2 _ _ _ _ _ _ _ _ _ _ _ _ _)
   | (with_reducible exact ih3 _ _ _ _ _ _ _ _ _ _ _ _ _)
   | (with_reducible exact ih4 _ _ _ _ _ _ _ _ _ _ _ _ _)
   | (with_reducible exact steepleref15_Two.mono _ _)
   | (with_reducible exact steepleref18_Fits.mono _ _ _ _)
   | (with_reducible exact LeO.refl _)
   | (with_reducible exact LeO.none _)
   | (with_reducible refine LeO.ite ?_ ?_)
   | (with_reducible refine LeO.bind ?_ (fun _ => ?_))
   | exact ih0 _ _ _ _ _ _ _ _ _ _ _ _ _
   | exact ih1 _ _ _ _ _ _ _ _ _ _ _ _ _
   | exact ih2 _ _ _ _ _ _ _ _ _ _ _ _ _
   | exact ih3 _ _ _ _ _ _ _ _ _ _ _ _ _
   | exact ih4 _ _ _ _ _ _ _ _ _ _ _ _ _
   | exact steepleref15_Two.mono _ _
   | exact steepleref18_Fits.mono _ _ _ _
   | exact LeO.none _
   | refine LeO.ite ?_ ?_
   | refine LeO.bind ?_ (fun _ => ?_)
  ·intro y0 y1 y2 y3 y4 y5 y6 y7 y8 y9 y10 y11 y12
   unfold steepleref25_System_Gate.j4
   repeat' first
   | (with_reducible exact ih0 _ _ _ _ _ _ _ _ _ _ _ _ _)
   | (with_reducible exact ih1 _ _ _ _ _ _ _ _ _ _ _ _ _)
   | (with_reducible exact ih2 _ _ _ _ _ _ _ _ _ _ _ _ _)
   | (with_reducible exact ih3 _ _ _ _ _ _ _ _ _ _ _ _ _)
   | (with_reducible exact ih4 _ _ _ _ _ _ _ _ _ _ _ _ _)
   | (with_reducible exact steepleref15_Two.mono _ _)
   | (with_reducible exact steepleref18_Fits.mono _ _ _ _)
   | (with_reducible exact LeO.refl _)
   | (with_reducible exact LeO.none _)
   | (with_reducible refine LeO.ite ?_ ?_)
   | (with_reducible refine LeO.bind ?_ (fun _ => ?_))
   | exact ih0 _ _ _ _ _ _ _ _ _ _ _ _ _
   | exact ih1 _ _ _ _ _ _ _ _ _ _ _ _ _
   | exact ih2 _ _ _ _ _ _ _ _ _ _ _ _ _
   | exact ih3 _ _ _ _ _ _ _ _ _ _ _ _ _
   | exact ih4 _ _ _ _ _ _ _ _ _ _ _ _ _
   | exact steepleref15_Two.mono _ _
   | exact steepleref18_Fits.mono _ _ _ _
   | exact LeO.none _
   | refine LeO.ite ?_ ?_
   | refine LeO.bind ?_ (fun _ => ?_)
theorem steepleref25_System_Gate.mono : ∀ a0 a1 a2 a3 a4 a5 a6 a7 a8 a9 a10 a11 k, LeO (steepleref25_System_Gate.f k a0 a1 a2 a3 a4 a5 a6 a7 a8 a9 a10 a11) (steepleref25_System_Gate.f (k + 1) a0 a1 a2 a3 a4 a5 a6 a7 a8 a9 a10 a11) := by
 intro a0 a1 a2 a3 a4 a5 a6 a7 a8 a9 a10 a11 k
 obtain ⟨ih0, ih1, ih2, ih3, ih4⟩ := steepleref25_System_Gate.mono_l k
 unfold steepleref25_System_Gate.f
 repeat' first
   | (with_reducible exact ih0 _ _ _ _ _ _ _ _ _ _ _ _ _)
   | (with_reducible exact ih1 _ _ _ _ _ _ _ _ _ _ _ _ _)
   | (with_reducible exact ih2 _ _ _ _ _ _ _ _ _ _ _ _ _)
   | (with_reducible exact ih3 _ _ _ _ _ _ _ _ _ _ _ _ _)
   | (with_reducible exact ih4 _ _ _ _ _ _ _ _ _ _ _ _ _)
   | (with_reducible exact steepleref15_Two.mono _ _)
   | (with_reducible exact steepleref18_Fits.mono _ _ _ _)
   | (with_reducible exact LeO.refl _)
   | (with_reducible exact LeO.none _)
   | (with_reducible refine LeO.ite ?_ ?_)
   | (with_reducible refine LeO.bind ?_ (fun _ => ?_))
   | exact ih0 _ _ _ _ _ _ _ _ _ _ _ _ _
   | exact ih1 _ _ _ _ _ _ _ _ _ _ _ _ _
   | exact ih2 _ _ _ _ _ _ _ _ _ _ _ _ _
   | exact ih3 _ _ _ _ _ _ _ _ _ _ _ _ _
   | exact ih4 _ _ _ _ _ _ _ _ _ _ _ _ _
   | exact steepleref15_Two.mono _ _
   | exact steepleref18_Fits.mono _ _ _ _
   | exact LeO.none _
   | refine LeO.ite ?_ ?_
   | refine LeO.bind ?_ (fun _ => ?_)
def steepleref25_System_Gate.T11 : Bool × List (List Nat × List Nat) := (true, [([], []), ([], []), ([1], [1]), ([0, 2], [0, 2]), ([], []), ([4], [4]), ([5, 2], [5]), ([3, 6], [3, 6])])
def steepleref25_System_Gate.B11 : List Nat := [0, 0, 2, 7, 0, 16, 54, 127]
theorem steepleref25_System_Gate.tab11 : rtab .any (opsOf Try.f59 11) = steepleref25_System_Gate.T11 := by kernel_rfl
theorem steepleref25_System_Gate.bits11 : waitsOk steepleref25_System_Gate.T11.2 steepleref25_System_Gate.B11 = true := by kernel_rfl
set_option maxHeartbeats 8000000 in
set_option maxRecDepth 100000 in
theorem steepleref25_System_Gate.calls (k : Nat) (a0_0 : Int) (a0_1 : Int) (a0_2 : Int) (a0_3 : Int) (a0_4 : Int) (A0_5 : Option Addr) (c0_5 : Nat) (l0_5 : List (S106)) (a1_0 : Int) (a1_1 : Int) (a1_2 : Int) (a1_3 : Int) (a1_4 : Int) (a2 : Int) (r : Int) (w : World) (hr0_5 : Kd.C k106 w A0_5 l0_5.length l0_5) (hc0_5 : l0_5.length ≤ c0_5) (h : steepleref25_System_Gate.f k a0_0 a0_1 a0_2 a0_3 a0_4 l0_5 a1_0 a1_1 a1_2 a1_3 a1_4 a2 = some r) :
  Calls Try.prog 59 #[.agg #[.int .i64 a0_0, .int .i64 a0_1, .int .i64 a0_2, .int .i64 a0_3, .int .i64 a0_4, .slice A0_5 l0_5.length c0_5], .agg #[.int .i64 a1_0, .int .i64 a1_1, .int .i64 a1_2, .int .i64 a1_3, .int .i64 a1_4], .int .i64 a2] w fun e w' => e = .returned (.int .i64 r) ∧ Below w.heap.size w w' := by
 have hu28 := Try.underlying28; have hu106 := Try.underlying106; have HR0_5 := Aside0.mk hr0_5; have HC0_5 := Aside0.mk hc0_5; clear hr0_5 hc0_5; have HB := Aside0.mk (Below.refl w.heap.size w)
 have H : (if a1_0 < 1 then (steepleref25_System_Gate.j0 k a2 true a0_0 a0_1 a0_2 a0_3 a0_4 l0_5 a1_0 a1_1 a1_2 a1_3 a1_4) else (steepleref25_System_Gate.j0 k a2 (decide (a1_0 > 8)) a0_0 a0_1 a0_2 a0_3 a0_4 l0_5 a1_0 a1_1 a1_2 a1_3 a1_4)) = some r := h
 clear h; have HC4 := Aside0.mk H; clear H
 go_enter Try.func59, Try.ntmps59
 go_upto_region 1 with (first | ((with_reducible refine gate_dst (N := 3) rfl ?_); refine box_event ?hg (N := 3) ?hd (cs := #[.int .i64 a0_0, .int .i64 a0_1, .int .i64 a0_2, .int .i64 a0_3, .int .i64 a0_4, .slice A0_5 l0_5.length c0_5]) (t := 28) ?hr ?_; (case hd => rfl); (case hg => rfl); (case hr => first | (go_simp; done) | (go_simp; rfl)); intro gb110 hg w5 hbox hb; have n0_ := Aside0.mk (below_step (blA HB.out) hb); have n1_ := Aside0.mk (hbox); have n2_ := Aside0.mk ((by rw [hg]; exact (below_size (blA HB.out)) : w.heap.size ≤ gb110)); have n3_ := Aside0.mk ((by rw [hg]; exact (below_size (blA HB.out)) : w.heap.size ≤ gb110)); clear HB; have HB := n0_; have BK110 := n1_; have GW110 := n2_; have GE110 := n3_; clear n0_ n1_ n2_ n3_; clear hb hbox hg) | ((with_reducible refine gate_dst (N := 4) rfl ?_); refine box_event ?hg (N := 4) ?hd (cs := #[.int .i64 a1_0, .int .i64 a1_1, .int .i64 a1_2, .int .i64 a1_3, .int .i64 a1_4]) (t := 106) ?hr ?_; (case hd => rfl); (case hg => rfl); (case hr => first | (go_simp; done) | (go_simp; rfl)); intro gb111 hg w6 hbox hb; have n0_ := Aside0.mk (blk_below (bkA BK110.out) hb); have n1_ := Aside0.mk (below_step (blA HB.out) hb); have n2_ := Aside0.mk (hbox); have n3_ := Aside0.mk ((by rw [hg]; exact (below_size (blA HB.out)) : w.heap.size ≤ gb111)); have n4_ := Aside0.mk ((by rw [hg]; exact (below_size (blA HB.out)) : w.heap.size ≤ gb111)); have n5_ := Aside0.mk ((by rw [hg]; exact Nat.ne_of_lt (blk_lt (bkA BK110.out)) : gb110 ≠ gb111)); have n6_ := Aside0.mk ((by rw [hg]; exact Nat.ne_of_gt (blk_lt (bkA BK110.out)) : gb111 ≠ gb110)); clear BK110; clear HB; have BK110 := n0_; have HB := n1_; have BK111 := n2_; have GW111 := n3_; have GE111 := n4_; have NB110_111 := n5_; have NB111_110 := n6_; clear n0_ n1_ n2_ n3_ n4_ n5_ n6_; clear hb hbox hg))
 (try simp only [Act.put, List.setIfInBounds_toArray, List.set_cons_zero, List.set_cons_succ])
 go_cut [14] (fun v14 wc => ∃ (kq : Nat) (x14_3 : Bool), v14 = .bool x14_3 ∧ Aside0 (steepleref25_System_Gate.j0 kq a2 x14_3 a0_0 a0_1 a0_2 a0_3 a0_4 l0_5 a1_0 a1_1 a1_2 a1_3 a1_4 = some r) ∧ Aside0 (kq ≤ k) ∧ Aside0 (wc.heap[gb110]? = some (.cells #[.int .i64 a0_0, .int .i64 a0_1, .int .i64 a0_2, .int .i64 a0_3, .int .i64 a0_4, (.slice A0_5 l0_5.length c0_5)] 28 (0, 0))) ∧ Aside0 (wc.heap[gb111]? = some (.cells #[.int .i64 a1_0, .int .i64 a1_1, .int .i64 a1_2, .int .i64 a1_3, .int .i64 a1_4] 106 (0, 0))) ∧ Aside0 (Below w.heap.size w wc))
 case first =>
  have H := HC4.out; clear HC4
  by_cases c7 : a1_0 < 1
  ·rw [if_pos c7] at H
   have c7b0 : decide (a1_0 < 1) = true := decide_eq_true c7; clear c7
   (first | rw [c7b0] | (simp only [i64_w, i32_w]; rw [c7b0]) | skip)
   have H' := Aside0.mk H; clear H; have hnb8 := NB111_110.out; have hnc8 := NB110_111.out
   have hcz9 := fun i => blk_cell BK111.out i
   have hfz9 := fun i => blk_frozen BK111.out i
   go_wp2
   go_meet
   case rel => exact ⟨_, (true), eqA, H', ⟨omA⟩, ⟨bkA BK110.out⟩, ⟨bkA BK111.out⟩, ⟨blA HB.out⟩⟩
  ·rw [if_neg c7] at H
   have c7b0 : decide (a1_0 < 1) = false := decide_eq_false c7; clear c7
   (first | rw [c7b0] | (simp only [i64_w, i32_w]; rw [c7b0]) | skip)
   have H' := Aside0.mk H; clear H; have hnb10 := NB111_110.out; have hnc10 := NB110_111.out
   have hcz11 := fun i => blk_cell BK111.out i
   have hfz11 := fun i => blk_frozen BK111.out i
   go_wp2
   go_meet
   case rel => exact ⟨_, (decide (a1_0 > 8)), eqA, H', ⟨omA⟩, ⟨bkA BK110.out⟩, ⟨bkA BK111.out⟩, ⟨blA HB.out⟩⟩
 case rest =>
  clear HC4; (try clear c1); (try clear p2); (try clear c5); (try clear c7); (try clear c7b0); (try clear c8); (try clear c10); (try clear hcz11); (try clear hcz9); (try clear hfz11); (try clear hfz9); obtain ⟨kq, x14_3, rfl, HA, HJ3, BK110, BK111, HB⟩ := hcut
  cases kq with
  | zero => exact absurd HA.out (by simp [steepleref25_System_Gate.j0])
  | succ kj3 =>
   have H := HA.out; clear HA
   simp only [steepleref25_System_Gate.j0] at H
   by_cases c12 : x14_3 = true
   ·subst c12
    have H1 : (some 3) = some r := by rw [if_pos rfl] at H; exact H
    clear H; have H := H1; clear H1; obtain rfl := Option.some.inj H
    go_wp2
    go_ret
    exact ⟨by first | rfl | (simp [errW_none, errW_some] <;> rfl) | (simp [*, errW_none, errW_some] <;> rfl), blA HB.out⟩
   ·replace c12 := Bool.eq_false_iff.mpr c12; subst c12
    have H1 : ((steepleref25_two.f a1_0).bind fun t112 => (if t112 = true then (if a1_0 = 8 then (if a1_1 = 0 then ((steepleref25_shifts.f a1_0).bind fun t113 => (if t113 = true then (steepleref25_System_Gate.j1 kj3 a2 false a0_0 a0_1 a0_2 a0_3 a0_4 l0_5 a1_0 a1_1 a1_2 a1_3 a1_4) else (if a1_0 = 7 then (steepleref25_System_Gate.j1 kj3 a2 false a0_0 a0_1 a0_2 a0_3 a0_4 l0_5 a1_0 a1_1 a1_2 a1_3 a1_4) else (steepleref25_System_Gate.j1 kj3 a2 (a1_4 != 0) a0_0 a0_1 a0_2 a0_3 a0_4 l0_5 a1_0 a1_1 a1_2 a1_3 a1_4)))) else (steepleref25_System_Gate.j1 kj3 a2 true a0_0 a0_1 a0_2 a0_3 a0_4 l0_5 a1_0 a1_1 a1_2 a1_3 a1_4)) else ((steepleref25_shifts.f a1_0).bind fun t114 => (if t114 = true then (steepleref25_System_Gate.j1 kj3 a2 false a0_0 a0_1 a0_2 a0_3 a0_4 l0_5 a1_0 a1_1 a1_2 a1_3 a1_4) else (if a1_0 = 7 then (steepleref25_System_Gate.j1 kj3 a2 false a0_0 a0_1 a0_2 a0_3 a0_4 l0_5 a1_0 a1_1 a1_2 a1_3 a1_4) else (steepleref25_System_Gate.j1 kj3 a2 (a1_4 != 0) a0_0 a0_1 a0_2 a0_3 a0_4 l0_5 a1_0 a1_1 a1_2 a1_3 a1_4))))) else (if a1_3 = 0 then (if a1_0 = 8 then (if a1_1 = 0 then ((steepleref25_shifts.f a1_0).bind fun t115 => (if t115 = true then (steepleref25_System_Gate.j1 kj3 a2 false a0_0 a0_1 a0_2 a0_3 a0_4 l0_5 a1_0 a1_1 a1_2 a1_3 a1_4) else (if a1_0 = 7 then (steepleref25_System_Gate.j1 kj3 a2 false a0_0 a0_1 a0_2 a0_3 a0_4 l0_5 a1_0 a1_1 a1_2 a1_3 a1_4) else (steepleref25_System_Gate.j1 kj3 a2 (a1_4 != 0) a0_0 a0_1 a0_2 a0_3 a0_4 l0_5 a1_0 a1_1 a1_2 a1_3 a1_4)))) else (steepleref25_System_Gate.j1 kj3 a2 true a0_0 a0_1 a0_2 a0_3 a0_4 l0_5 a1_0 a1_1 a1_2 a1_3 a1_4)) else ((steepleref25_shifts.f a1_0).bind fun t116 => (if t116 = true then (steepleref25_System_Gate.j1 kj3 a2 false a0_0 a0_1 a0_2 a0_3 a0_4 l0_5 a1_0 a1_1 a1_2 a1_3 a1_4) else (if a1_0 = 7 then (steepleref25_System_Gate.j1 kj3 a2 false a0_0 a0_1 a0_2 a0_3 a0_4 l0_5 a1_0 a1_1 a1_2 a1_3 a1_4) else (steepleref25_System_Gate.j1 kj3 a2 (a1_4 != 0) a0_0 a0_1 a0_2 a0_3 a0_4 l0_5 a1_0 a1_1 a1_2 a1_3 a1_4))))) else (steepleref25_System_Gate.j1 kj3 a2 true a0_0 a0_1 a0_2 a0_3 a0_4 l0_5 a1_0 a1_1 a1_2 a1_3 a1_4)))) = some r := by rw [if_neg (show ¬ (false = true) by decide)] at H; exact H
    clear H; have H := H1; clear H1; have HC13 := Aside0.mk H; clear H
    go_upto_region 3 with (fail)
    go_cut [49] (fun v49 wc => ∃ (kq : Nat) (x49_12 : Bool), v49 = .bool x49_12 ∧ Aside0 (steepleref25_System_Gate.j1 kq a2 x49_12 a0_0 a0_1 a0_2 a0_3 a0_4 l0_5 a1_0 a1_1 a1_2 a1_3 a1_4 = some r) ∧ Aside0 (kq ≤ kj3) ∧ Aside0 (wc.heap[gb110]? = some (.cells #[.int .i64 a0_0, .int .i64 a0_1, .int .i64 a0_2, .int .i64 a0_3, .int .i64 a0_4, (.slice A0_5 l0_5.length c0_5)] 28 (0, 0))) ∧ Aside0 (wc.heap[gb111]? = some (.cells #[.int .i64 a1_0, .int .i64 a1_1, .int .i64 a1_2, .int .i64 a1_3, .int .i64 a1_4] 106 (0, 0))) ∧ Aside0 (Below w.heap.size w wc))
    case first =>
     have H := HC13.out; clear HC13; replace H := Option.bind_eq_some_iff.mp H; obtain ⟨t112, A140, H⟩ := H
     (try dsimp only at H)
     have A14 := Aside0.mk A140; clear A140
     by_cases c15 : t112 = true
     ·subst c15
      have H1 : (if a1_0 = 8 then (if a1_1 = 0 then ((steepleref25_shifts.f a1_0).bind fun t113 => (if t113 = true then (steepleref25_System_Gate.j1 kj3 a2 false a0_0 a0_1 a0_2 a0_3 a0_4 l0_5 a1_0 a1_1 a1_2 a1_3 a1_4) else (if a1_0 = 7 then (steepleref25_System_Gate.j1 kj3 a2 false a0_0 a0_1 a0_2 a0_3 a0_4 l0_5 a1_0 a1_1 a1_2 a1_3 a1_4) else (steepleref25_System_Gate.j1 kj3 a2 (a1_4 != 0) a0_0 a0_1 a0_2 a0_3 a0_4 l0_5 a1_0 a1_1 a1_2 a1_3 a1_4)))) else (steepleref25_System_Gate.j1 kj3 a2 true a0_0 a0_1 a0_2 a0_3 a0_4 l0_5 a1_0 a1_1 a1_2 a1_3 a1_4)) else ((steepleref25_shifts.f a1_0).bind fun t114 => (if t114 = true then (steepleref25_System_Gate.j1 kj3 a2 false a0_0 a0_1 a0_2 a0_3 a0_4 l0_5 a1_0 a1_1 a1_2 a1_3 a1_4) else (if a1_0 = 7 then (steepleref25_System_Gate.j1 kj3 a2 false a0_0 a0_1 a0_2 a0_3 a0_4 l0_5 a1_0 a1_1 a1_2 a1_3 a1_4) else (steepleref25_System_Gate.j1 kj3 a2 (a1_4 != 0) a0_0 a0_1 a0_2 a0_3 a0_4 l0_5 a1_0 a1_1 a1_2 a1_3 a1_4))))) = some r := by rw [if_pos rfl] at H; exact H
      clear H; have H := H1; clear H1
      by_cases c16 : a1_0 = 8
      ·rw [if_pos c16] at H
       have c16b0 : (a1_0 == 8) = true := beq_iff_eq.mpr c16; have c16b1 : (a1_0 != 8) = false := bne_eq_false_iff_eq.mpr c16; clear c16
       (first | rw [c16b0] | (simp only [i64_w, i32_w]; rw [c16b0]) | skip)
       by_cases c17 : a1_1 = 0
       ·rw [if_pos c17] at H
        have c17b0 : (a1_1 == 0) = true := beq_iff_eq.mpr c17; have c17b1 : (a1_1 != 0) = false := bne_eq_false_iff_eq.mpr c17; clear c17; replace H := Option.bind_eq_some_iff.mp H; obtain ⟨t113, A180, H⟩ := H
        (try dsimp only at H)
        have A18 := Aside0.mk A180; clear A180
        by_cases c19 : t113 = true
        ·subst c19
         have H1 : (steepleref25_System_Gate.j1 kj3 a2 false a0_0 a0_1 a0_2 a0_3 a0_4 l0_5 a1_0 a1_1 a1_2 a1_3 a1_4) = some r := by rw [if_pos rfl] at H; exact H
         clear H; have H := H1; clear H1; have H' := Aside0.mk H; clear H; have hnb20 := NB111_110.out; have hnc20 := NB110_111.out
         have hcz21 := fun i => blk_cell BK111.out i
         have hfz21 := fun i => blk_frozen BK111.out i
         go_wp2_with (first | ((with_reducible refine gate_callee (f := 89) rfl ?_); refine goesL_ (some 17) rfl rfl Try.func89 (by kernel_rfl) rfl #[.int .i64 a1_0] rfl gsA ?_; (with_reducible refine (steepleref25_two.calls a1_0 true _ A14.out).mono ?_); rintro e w' ⟨rfl, ⟨nd, rfl⟩⟩; refine ⟨_, rfl, ?_⟩) | (go_at_call 90; (with_reducible refine (steepleref25_shifts.calls a1_0 true _ A18.out).mono ?_); rintro e w' ⟨rfl, ⟨nd, rfl⟩⟩))
         go_meet
         case rel => exact ⟨_, (false), eqA, H', ⟨by have := HJ3.out; first | omega | exact Nat.le_refl _⟩, ⟨bkA BK110.out⟩, ⟨bkA BK111.out⟩, ⟨blA HB.out⟩⟩
        ·replace c19 := Bool.eq_false_iff.mpr c19; subst c19
         have H1 : (if a1_0 = 7 then (steepleref25_System_Gate.j1 kj3 a2 false a0_0 a0_1 a0_2 a0_3 a0_4 l0_5 a1_0 a1_1 a1_2 a1_3 a1_4) else (steepleref25_System_Gate.j1 kj3 a2 (a1_4 != 0) a0_0 a0_1 a0_2 a0_3 a0_4 l0_5 a1_0 a1_1 a1_2 a1_3 a1_4)) = some r := by rw [if_neg (show ¬ (false = true) by decide)] at H; exact H
         clear H; have H := H1; clear H1
         by_cases c22 : a1_0 = 7
         ·rw [if_pos c22] at H
          have c22b0 : (a1_0 == 7) = true := beq_iff_eq.mpr c22; have c22b1 : (a1_0 != 7) = false := bne_eq_false_iff_eq.mpr c22; clear c22; have H' := Aside0.mk H; clear H; have hnb23 := NB111_110.out; have hnc23 := NB110_111.out
          have hcz24 := fun i => blk_cell BK111.out i
          have hfz24 := fun i => blk_frozen BK111.out i
          go_wp2_with (first | ((with_reducible refine gate_callee (f := 89) rfl ?_); refine goesL_ (some 17) rfl rfl Try.func89 (by kernel_rfl) rfl #[.int .i64 a1_0] rfl gsA ?_; (with_reducible refine (steepleref25_two.calls a1_0 true _ A14.out).mono ?_); rintro e w' ⟨rfl, ⟨nd, rfl⟩⟩; refine ⟨_, rfl, ?_⟩) | (go_at_call 90; (with_reducible refine (steepleref25_shifts.calls a1_0 false _ A18.out).mono ?_); rintro e w' ⟨rfl, ⟨nd, rfl⟩⟩))
          go_meet
          case rel => exact ⟨_, (false), eqA, H', ⟨by have := HJ3.out; first | omega | exact Nat.le_refl _⟩, ⟨bkA BK110.out⟩, ⟨bkA BK111.out⟩, ⟨blA HB.out⟩⟩
         ·rw [if_neg c22] at H
          have c22b0 : (a1_0 == 7) = false := beq_eq_false_iff_ne.mpr c22; have c22b1 : (a1_0 != 7) = true := bne_iff_ne.mpr c22; have H' := Aside0.mk H; clear H; have hnb25 := NB111_110.out; have hnc25 := NB110_111.out
          have hcz26 := fun i => blk_cell BK111.out i
          have hfz26 := fun i => blk_frozen BK111.out i
          go_wp2_with (first | ((with_reducible refine gate_callee (f := 89) rfl ?_); refine goesL_ (some 17) rfl rfl Try.func89 (by kernel_rfl) rfl #[.int .i64 a1_0] rfl gsA ?_; (with_reducible refine (steepleref25_two.calls a1_0 true _ A14.out).mono ?_); rintro e w' ⟨rfl, ⟨nd, rfl⟩⟩; refine ⟨_, rfl, ?_⟩) | (go_at_call 90; (with_reducible refine (steepleref25_shifts.calls a1_0 false _ A18.out).mono ?_); rintro e w' ⟨rfl, ⟨nd, rfl⟩⟩))
          go_meet
          case rel => exact ⟨_, ((a1_4 != 0)), eqA, H', ⟨by have := HJ3.out; first | omega | exact Nat.le_refl _⟩, ⟨bkA BK110.out⟩, ⟨bkA BK111.out⟩, ⟨blA HB.out⟩⟩
       ·rw [if_neg c17] at H
        have c17b0 : (a1_1 == 0) = false := beq_eq_false_iff_ne.mpr c17; have c17b1 : (a1_1 != 0) = true := bne_iff_ne.mpr c17; have H' := Aside0.mk H; clear H; have hnb27 := NB111_110.out; have hnc27 := NB110_111.out
        have hcz28 := fun i => blk_cell BK111.out i
        have hfz28 := fun i => blk_frozen BK111.out i
        go_wp2_with (first | ((with_reducible refine gate_callee (f := 89) rfl ?_); refine goesL_ (some 17) rfl rfl Try.func89 (by kernel_rfl) rfl #[.int .i64 a1_0] rfl gsA ?_; (with_reducible refine (steepleref25_two.calls a1_0 true _ A14.out).mono ?_); rintro e w' ⟨rfl, ⟨nd, rfl⟩⟩; refine ⟨_, rfl, ?_⟩))
        go_meet
        case rel => exact ⟨_, (true), eqA, H', ⟨by have := HJ3.out; first | omega | exact Nat.le_refl _⟩, ⟨bkA BK110.out⟩, ⟨bkA BK111.out⟩, ⟨blA HB.out⟩⟩
      ·rw [if_neg c16] at H
       have c16b0 : (a1_0 == 8) = false := beq_eq_false_iff_ne.mpr c16; have c16b1 : (a1_0 != 8) = true := bne_iff_ne.mpr c16
       (first | rw [c16b0] | (simp only [i64_w, i32_w]; rw [c16b0]) | skip)
       replace H := Option.bind_eq_some_iff.mp H; obtain ⟨t114, A290, H⟩ := H
       (try dsimp only at H)
       have A29 := Aside0.mk A290; clear A290
       by_cases c30 : t114 = true
       ·subst c30
        have H1 : (steepleref25_System_Gate.j1 kj3 a2 false a0_0 a0_1 a0_2 a0_3 a0_4 l0_5 a1_0 a1_1 a1_2 a1_3 a1_4) = some r := by rw [if_pos rfl] at H; exact H
        clear H; have H := H1; clear H1; have H' := Aside0.mk H; clear H; have hnb31 := NB111_110.out; have hnc31 := NB110_111.out
        have hcz32 := fun i => blk_cell BK111.out i
        have hfz32 := fun i => blk_frozen BK111.out i
        go_wp2_with (first | ((with_reducible refine gate_callee (f := 89) rfl ?_); refine goesL_ (some 17) rfl rfl Try.func89 (by kernel_rfl) rfl #[.int .i64 a1_0] rfl gsA ?_; (with_reducible refine (steepleref25_two.calls a1_0 true _ A14.out).mono ?_); rintro e w' ⟨rfl, ⟨nd, rfl⟩⟩; refine ⟨_, rfl, ?_⟩) | (go_at_call 90; (with_reducible refine (steepleref25_shifts.calls a1_0 true _ A29.out).mono ?_); rintro e w' ⟨rfl, ⟨nd, rfl⟩⟩))
        go_meet
        case rel => exact ⟨_, (false), eqA, H', ⟨by have := HJ3.out; first | omega | exact Nat.le_refl _⟩, ⟨bkA BK110.out⟩, ⟨bkA BK111.out⟩, ⟨blA HB.out⟩⟩
       ·replace c30 := Bool.eq_false_iff.mpr c30; subst c30
        have H1 : (if a1_0 = 7 then (steepleref25_System_Gate.j1 kj3 a2 false a0_0 a0_1 a0_2 a0_3 a0_4 l0_5 a1_0 a1_1 a1_2 a1_3 a1_4) else (steepleref25_System_Gate.j1 kj3 a2 (a1_4 != 0) a0_0 a0_1 a0_2 a0_3 a0_4 l0_5 a1_0 a1_1 a1_2 a1_3 a1_4)) = some r := by rw [if_neg (show ¬ (false = true) by decide)] at H; exact H
        clear H; have H := H1; clear H1
        by_cases c33 : a1_0 = 7
        ·rw [if_pos c33] at H
         have c33b0 : (a1_0 == 7) = true := beq_iff_eq.mpr c33; have c33b1 : (a1_0 != 7) = false := bne_eq_false_iff_eq.mpr c33; clear c33; have H' := Aside0.mk H; clear H; have hnb34 := NB111_110.out; have hnc34 := NB110_111.out
         have hcz35 := fun i => blk_cell BK111.out i
         have hfz35 := fun i => blk_frozen BK111.out i
         go_wp2_with (first | ((with_reducible refine gate_callee (f := 89) rfl ?_); refine goesL_ (some 17) rfl rfl Try.func89 (by kernel_rfl) rfl #[.int .i64 a1_0] rfl gsA ?_; (with_reducible refine (steepleref25_two.calls a1_0 true _ A14.out).mono ?_); rintro e w' ⟨rfl, ⟨nd, rfl⟩⟩; refine ⟨_, rfl, ?_⟩) | (go_at_call 90; (with_reducible refine (steepleref25_shifts.calls a1_0 false _ A29.out).mono ?_); rintro e w' ⟨rfl, ⟨nd, rfl⟩⟩))
         go_meet
         case rel => exact ⟨_, (false), eqA, H', ⟨by have := HJ3.out; first | omega | exact Nat.le_refl _⟩, ⟨bkA BK110.out⟩, ⟨bkA BK111.out⟩, ⟨blA HB.out⟩⟩
        ·rw [if_neg c33] at H
         have c33b0 : (a1_0 == 7) = false := beq_eq_false_iff_ne.mpr c33; have c33b1 : (a1_0 != 7) = true := bne_iff_ne.mpr c33; have H' := Aside0.mk H; clear H; have hnb36 := NB111_110.out; have hnc36 := NB110_111.out
         have hcz37 := fun i => blk_cell BK111.out i
         have hfz37 := fun i => blk_frozen BK111.out i
         go_wp2_with (first | ((with_reducible refine gate_callee (f := 89) rfl ?_); refine goesL_ (some 17) rfl rfl Try.func89 (by kernel_rfl) rfl #[.int .i64 a1_0] rfl gsA ?_; (with_reducible refine (steepleref25_two.calls a1_0 true _ A14.out).mono ?_); rintro e w' ⟨rfl, ⟨nd, rfl⟩⟩; refine ⟨_, rfl, ?_⟩) | (go_at_call 90; (with_reducible refine (steepleref25_shifts.calls a1_0 false _ A29.out).mono ?_); rintro e w' ⟨rfl, ⟨nd, rfl⟩⟩))
         go_meet
         case rel => exact ⟨_, ((a1_4 != 0)), eqA, H', ⟨by have := HJ3.out; first | omega | exact Nat.le_refl _⟩, ⟨bkA BK110.out⟩, ⟨bkA BK111.out⟩, ⟨blA HB.out⟩⟩
     ·replace c15 := Bool.eq_false_iff.mpr c15; subst c15
      have H1 : (if a1_3 = 0 then (if a1_0 = 8 then (if a1_1 = 0 then ((steepleref25_shifts.f a1_0).bind fun t115 => (if t115 = true then (steepleref25_System_Gate.j1 kj3 a2 false a0_0 a0_1 a0_2 a0_3 a0_4 l0_5 a1_0 a1_1 a1_2 a1_3 a1_4) else (if a1_0 = 7 then (steepleref25_System_Gate.j1 kj3 a2 false a0_0 a0_1 a0_2 a0_3 a0_4 l0_5 a1_0 a1_1 a1_2 a1_3 a1_4) else (steepleref25_System_Gate.j1 kj3 a2 (a1_4 != 0) a0_0 a0_1 a0_2 a0_3 a0_4 l0_5 a1_0 a1_1 a1_2 a1_3 a1_4)))) else (steepleref25_System_Gate.j1 kj3 a2 true a0_0 a0_1 a0_2 a0_3 a0_4 l0_5 a1_0 a1_1 a1_2 a1_3 a1_4)) else ((steepleref25_shifts.f a1_0).bind fun t116 => (if t116 = true then (steepleref25_System_Gate.j1 kj3 a2 false a0_0 a0_1 a0_2 a0_3 a0_4 l0_5 a1_0 a1_1 a1_2 a1_3 a1_4) else (if a1_0 = 7 then (steepleref25_System_Gate.j1 kj3 a2 false a0_0 a0_1 a0_2 a0_3 a0_4 l0_5 a1_0 a1_1 a1_2 a1_3 a1_4) else (steepleref25_System_Gate.j1 kj3 a2 (a1_4 != 0) a0_0 a0_1 a0_2 a0_3 a0_4 l0_5 a1_0 a1_1 a1_2 a1_3 a1_4))))) else (steepleref25_System_Gate.j1 kj3 a2 true a0_0 a0_1 a0_2 a0_3 a0_4 l0_5 a1_0 a1_1 a1_2 a1_3 a1_4)) = some r := by rw [if_neg (show ¬ (false = true) by decide)] at H; exact H
      clear H; have H := H1; clear H1
      by_cases c38 : a1_3 = 0
      ·rw [if_pos c38] at H
       have c38b0 : (a1_3 == 0) = true := beq_iff_eq.mpr c38; have c38b1 : (a1_3 != 0) = false := bne_eq_false_iff_eq.mpr c38; clear c38
       by_cases c39 : a1_0 = 8
       ·rw [if_pos c39] at H
        have c39b0 : (a1_0 == 8) = true := beq_iff_eq.mpr c39; have c39b1 : (a1_0 != 8) = false := bne_eq_false_iff_eq.mpr c39; clear c39
        by_cases c40 : a1_1 = 0
        ·rw [if_pos c40] at H
         have c40b0 : (a1_1 == 0) = true := beq_iff_eq.mpr c40; have c40b1 : (a1_1 != 0) = false := bne_eq_false_iff_eq.mpr c40; clear c40; replace H := Option.bind_eq_some_iff.mp H; obtain ⟨t115, A410, H⟩ := H
         (try dsimp only at H)
         have A41 := Aside0.mk A410; clear A410
         by_cases c42 : t115 = true
         ·subst c42
          have H1 : (steepleref25_System_Gate.j1 kj3 a2 false a0_0 a0_1 a0_2 a0_3 a0_4 l0_5 a1_0 a1_1 a1_2 a1_3 a1_4) = some r := by rw [if_pos rfl] at H; exact H
          clear H; have H := H1; clear H1; have H' := Aside0.mk H; clear H; have hnb43 := NB111_110.out; have hnc43 := NB110_111.out
          have hcz44 := fun i => blk_cell BK111.out i
          have hfz44 := fun i => blk_frozen BK111.out i
          go_wp2_with (first | ((with_reducible refine gate_callee (f := 89) rfl ?_); refine goesL_ (some 17) rfl rfl Try.func89 (by kernel_rfl) rfl #[.int .i64 a1_0] rfl gsA ?_; (with_reducible refine (steepleref25_two.calls a1_0 false _ A14.out).mono ?_); rintro e w' ⟨rfl, ⟨nd, rfl⟩⟩; refine ⟨_, rfl, ?_⟩) | (go_at_call 90; (with_reducible refine (steepleref25_shifts.calls a1_0 true _ A41.out).mono ?_); rintro e w' ⟨rfl, ⟨nd, rfl⟩⟩))
          go_meet
          case rel => exact ⟨_, (false), eqA, H', ⟨by have := HJ3.out; first | omega | exact Nat.le_refl _⟩, ⟨bkA BK110.out⟩, ⟨bkA BK111.out⟩, ⟨blA HB.out⟩⟩
         ·replace c42 := Bool.eq_false_iff.mpr c42; subst c42
          have H1 : (if a1_0 = 7 then (steepleref25_System_Gate.j1 kj3 a2 false a0_0 a0_1 a0_2 a0_3 a0_4 l0_5 a1_0 a1_1 a1_2 a1_3 a1_4) else (steepleref25_System_Gate.j1 kj3 a2 (a1_4 != 0) a0_0 a0_1 a0_2 a0_3 a0_4 l0_5 a1_0 a1_1 a1_2 a1_3 a1_4)) = some r := by rw [if_neg (show ¬ (false = true) by decide)] at H; exact H
          clear H; have H := H1; clear H1
          by_cases c45 : a1_0 = 7
          ·rw [if_pos c45] at H
           have c45b0 : (a1_0 == 7) = true := beq_iff_eq.mpr c45; have c45b1 : (a1_0 != 7) = false := bne_eq_false_iff_eq.mpr c45; clear c45; have H' := Aside0.mk H; clear H; have hnb46 := NB111_110.out; have hnc46 := NB110_111.out
           have hcz47 := fun i => blk_cell BK111.out i
           have hfz47 := fun i => blk_frozen BK111.out i
           go_wp2_with (first | ((with_reducible refine gate_callee (f := 89) rfl ?_); refine goesL_ (some 17) rfl rfl Try.func89 (by kernel_rfl) rfl #[.int .i64 a1_0] rfl gsA ?_; (with_reducible refine (steepleref25_two.calls a1_0 false _ A14.out).mono ?_); rintro e w' ⟨rfl, ⟨nd, rfl⟩⟩; refine ⟨_, rfl, ?_⟩) | (go_at_call 90; (with_reducible refine (steepleref25_shifts.calls a1_0 false _ A41.out).mono ?_); rintro e w' ⟨rfl, ⟨nd, rfl⟩⟩))
           go_meet
           case rel => exact ⟨_, (false), eqA, H', ⟨by have := HJ3.out; first | omega | exact Nat.le_refl _⟩, ⟨bkA BK110.out⟩, ⟨bkA BK111.out⟩, ⟨blA HB.out⟩⟩
          ·rw [if_neg c45] at H
           have c45b0 : (a1_0 == 7) = false := beq_eq_false_iff_ne.mpr c45; have c45b1 : (a1_0 != 7) = true := bne_iff_ne.mpr c45; have H' := Aside0.mk H; clear H; have hnb48 := NB111_110.out; have hnc48 := NB110_111.out
           have hcz49 := fun i => blk_cell BK111.out i
           have hfz49 := fun i => blk_frozen BK111.out i
           go_wp2_with (first | ((with_reducible refine gate_callee (f := 89) rfl ?_); refine goesL_ (some 17) rfl rfl Try.func89 (by kernel_rfl) rfl #[.int .i64 a1_0] rfl gsA ?_; (with_reducible refine (steepleref25_two.calls a1_0 false _ A14.out).mono ?_); rintro e w' ⟨rfl, ⟨nd, rfl⟩⟩; refine ⟨_, rfl, ?_⟩) | (go_at_call 90; (with_reducible refine (steepleref25_shifts.calls a1_0 false _ A41.out).mono ?_); rintro e w' ⟨rfl, ⟨nd, rfl⟩⟩))
           go_meet
           case rel => exact ⟨_, ((a1_4 != 0)), eqA, H', ⟨by have := HJ3.out; first | omega | exact Nat.le_refl _⟩, ⟨bkA BK110.out⟩, ⟨bkA BK111.out⟩, ⟨blA HB.out⟩⟩
        ·rw [if_neg c40] at H
         have c40b0 : (a1_1 == 0) = false := beq_eq_false_iff_ne.mpr c40; have c40b1 : (a1_1 != 0) = true := bne_iff_ne.mpr c40; have H' := Aside0.mk H; clear H; have hnb50 := NB111_110.out; have hnc50 := NB110_111.out
         have hcz51 := fun i => blk_cell BK111.out i
         have hfz51 := fun i => blk_frozen BK111.out i
         go_wp2_with (first | ((with_reducible refine gate_callee (f := 89) rfl ?_); refine goesL_ (some 17) rfl rfl Try.func89 (by kernel_rfl) rfl #[.int .i64 a1_0] rfl gsA ?_; (with_reducible refine (steepleref25_two.calls a1_0 false _ A14.out).mono ?_); rintro e w' ⟨rfl, ⟨nd, rfl⟩⟩; refine ⟨_, rfl, ?_⟩))
         go_meet
         case rel => exact ⟨_, (true), eqA, H', ⟨by have := HJ3.out; first | omega | exact Nat.le_refl _⟩, ⟨bkA BK110.out⟩, ⟨bkA BK111.out⟩, ⟨blA HB.out⟩⟩
       ·rw [if_neg c39] at H
        have c39b0 : (a1_0 == 8) = false := beq_eq_false_iff_ne.mpr c39; have c39b1 : (a1_0 != 8) = true := bne_iff_ne.mpr c39; replace H := Option.bind_eq_some_iff.mp H; obtain ⟨t116, A520, H⟩ := H
        (try dsimp only at H)
        have A52 := Aside0.mk A520; clear A520
        by_cases c53 : t116 = true
        ·subst c53
         have H1 : (steepleref25_System_Gate.j1 kj3 a2 false a0_0 a0_1 a0_2 a0_3 a0_4 l0_5 a1_0 a1_1 a1_2 a1_3 a1_4) = some r := by rw [if_pos rfl] at H; exact H
         clear H; have H := H1; clear H1; have H' := Aside0.mk H; clear H; have hnb54 := NB111_110.out; have hnc54 := NB110_111.out
         have hcz55 := fun i => blk_cell BK111.out i
         have hfz55 := fun i => blk_frozen BK111.out i
         go_wp2_with (first | ((with_reducible refine gate_callee (f := 89) rfl ?_); refine goesL_ (some 17) rfl rfl Try.func89 (by kernel_rfl) rfl #[.int .i64 a1_0] rfl gsA ?_; (with_reducible refine (steepleref25_two.calls a1_0 false _ A14.out).mono ?_); rintro e w' ⟨rfl, ⟨nd, rfl⟩⟩; refine ⟨_, rfl, ?_⟩) | (go_at_call 90; (with_reducible refine (steepleref25_shifts.calls a1_0 true _ A52.out).mono ?_); rintro e w' ⟨rfl, ⟨nd, rfl⟩⟩))
         go_meet
         case rel => exact ⟨_, (false), eqA, H', ⟨by have := HJ3.out; first | omega | exact Nat.le_refl _⟩, ⟨bkA BK110.out⟩, ⟨bkA BK111.out⟩, ⟨blA HB.out⟩⟩
        ·replace c53 := Bool.eq_false_iff.mpr c53; subst c53
         have H1 : (if a1_0 = 7 then (steepleref25_System_Gate.j1 kj3 a2 false a0_0 a0_1 a0_2 a0_3 a0_4 l0_5 a1_0 a1_1 a1_2 a1_3 a1_4) else (steepleref25_System_Gate.j1 kj3 a2 (a1_4 != 0) a0_0 a0_1 a0_2 a0_3 a0_4 l0_5 a1_0 a1_1 a1_2 a1_3 a1_4)) = some r := by rw [if_neg (show ¬ (false = true) by decide)] at H; exact H
         clear H; have H := H1; clear H1
         by_cases c56 : a1_0 = 7
         ·rw [if_pos c56] at H
          have c56b0 : (a1_0 == 7) = true := beq_iff_eq.mpr c56; have c56b1 : (a1_0 != 7) = false := bne_eq_false_iff_eq.mpr c56; clear c56; have H' := Aside0.mk H; clear H; have hnb57 := NB111_110.out; have hnc57 := NB110_111.out
          have hcz58 := fun i => blk_cell BK111.out i
          have hfz58 := fun i => blk_frozen BK111.out i
          go_wp2_with (first | ((with_reducible refine gate_callee (f := 89) rfl ?_); refine goesL_ (some 17) rfl rfl Try.func89 (by kernel_rfl) rfl #[.int .i64 a1_0] rfl gsA ?_; (with_reducible refine (steepleref25_two.calls a1_0 false _ A14.out).mono ?_); rintro e w' ⟨rfl, ⟨nd, rfl⟩⟩; refine ⟨_, rfl, ?_⟩) | (go_at_call 90; (with_reducible refine (steepleref25_shifts.calls a1_0 false _ A52.out).mono ?_); rintro e w' ⟨rfl, ⟨nd, rfl⟩⟩))
          go_meet
          case rel => exact ⟨_, (false), eqA, H', ⟨by have := HJ3.out; first | omega | exact Nat.le_refl _⟩, ⟨bkA BK110.out⟩, ⟨bkA BK111.out⟩, ⟨blA HB.out⟩⟩
         ·rw [if_neg c56] at H
          have c56b0 : (a1_0 == 7) = false := beq_eq_false_iff_ne.mpr c56; have c56b1 : (a1_0 != 7) = true := bne_iff_ne.mpr c56; have H' := Aside0.mk H; clear H; have hnb59 := NB111_110.out; have hnc59 := NB110_111.out
          have hcz60 := fun i => blk_cell BK111.out i
          have hfz60 := fun i => blk_frozen BK111.out i
          go_wp2_with (first | ((with_reducible refine gate_callee (f := 89) rfl ?_); refine goesL_ (some 17) rfl rfl Try.func89 (by kernel_rfl) rfl #[.int .i64 a1_0] rfl gsA ?_; (with_reducible refine (steepleref25_two.calls a1_0 false _ A14.out).mono ?_); rintro e w' ⟨rfl, ⟨nd, rfl⟩⟩; refine ⟨_, rfl, ?_⟩) | (go_at_call 90; (with_reducible refine (steepleref25_shifts.calls a1_0 false _ A52.out).mono ?_); rintro e w' ⟨rfl, ⟨nd, rfl⟩⟩))
          go_meet
          case rel => exact ⟨_, ((a1_4 != 0)), eqA, H', ⟨by have := HJ3.out; first | omega | exact Nat.le_refl _⟩, ⟨bkA BK110.out⟩, ⟨bkA BK111.out⟩, ⟨blA HB.out⟩⟩
      ·rw [if_neg c38] at H
       have c38b0 : (a1_3 == 0) = false := beq_eq_false_iff_ne.mpr c38; have c38b1 : (a1_3 != 0) = true := bne_iff_ne.mpr c38; have H' := Aside0.mk H; clear H; have hnb61 := NB111_110.out; have hnc61 := NB110_111.out
       have hcz62 := fun i => blk_cell BK111.out i
       have hfz62 := fun i => blk_frozen BK111.out i
       go_wp2_with (first | ((with_reducible refine gate_callee (f := 89) rfl ?_); refine goesL_ (some 17) rfl rfl Try.func89 (by kernel_rfl) rfl #[.int .i64 a1_0] rfl gsA ?_; (with_reducible refine (steepleref25_two.calls a1_0 false _ A14.out).mono ?_); rintro e w' ⟨rfl, ⟨nd, rfl⟩⟩; refine ⟨_, rfl, ?_⟩))
       go_meet
       case rel => exact ⟨_, (true), eqA, H', ⟨by have := HJ3.out; first | omega | exact Nat.le_refl _⟩, ⟨bkA BK110.out⟩, ⟨bkA BK111.out⟩, ⟨blA HB.out⟩⟩
    case rest =>
     clear HC13; (try clear c1); (try clear c2); (try clear p2); (try clear c3); (try clear c4); (try clear c5); (try clear c6); (try clear c7); (try clear c7b0); (try clear c8); (try clear c10); (try clear c12); (try clear c15); (try clear c16); (try clear c16b0); (try clear c16b1); (try clear c17); (try clear c17b0); (try clear c17b1); (try clear c19); (try clear c20); (try clear c22); (try clear c22b0); (try clear c22b1); (try clear c23); (try clear c25); (try clear c27); (try clear c30); (try clear c31); (try clear c33); (try clear c33b0); (try clear c33b1); (try clear c34); (try clear c36); (try clear c38); (try clear c38b0); (try clear c38b1); (try clear c39); (try clear c39b0); (try clear c39b1); (try clear c40); (try clear c40b0); (try clear c40b1); (try clear c42); (try clear c43); (try clear c45); (try clear c45b0); (try clear c45b1); (try clear c46); (try clear c48); (try clear c50); (try clear c53); (try clear c54); (try clear c56); (try clear c56b0); (try clear c56b1); (try clear c57); (try clear c59); (try clear c61); (try clear hcz11); (try clear hcz21); (try clear hcz24); (try clear hcz26); (try clear hcz28); (try clear hcz32); (try clear hcz35); (try clear hcz37); (try clear hcz44); (try clear hcz47); (try clear hcz49); (try clear hcz51); (try clear hcz55); (try clear hcz58); (try clear hcz60); (try clear hcz62); (try clear hcz9); (try clear hfz11); (try clear hfz21); (try clear hfz24); (try clear hfz26); (try clear hfz28); (try clear hfz32); (try clear hfz35); (try clear hfz37); (try clear hfz44); (try clear hfz47); (try clear hfz49); (try clear hfz51); (try clear hfz55); (try clear hfz58); (try clear hfz60); (try clear hfz62); (try clear hfz9); (try clear p2); obtain ⟨kq, x49_12, rfl, HA, HJ12, BK110, BK111, HB⟩ := hcut
     cases kq with
     | zero => exact absurd HA.out (by simp [steepleref25_System_Gate.j1])
     | succ kj12 =>
      have H := HA.out; clear HA
      simp only [steepleref25_System_Gate.j1] at H
      by_cases c63 : x49_12 = true
      ·subst c63
       have H1 : (some 3) = some r := by rw [if_pos rfl] at H; exact H
       clear H; have H := H1; clear H1; obtain rfl := Option.some.inj H
       go_wp2
       go_ret
       exact ⟨by first | rfl | (simp [errW_none, errW_some] <;> rfl) | (simp [*, errW_none, errW_some] <;> rfl), blA HB.out⟩
      ·replace c63 := Bool.eq_false_iff.mpr c63; subst c63
       have H1 : (if a1_2 < 0 then (steepleref25_System_Gate.j2 kj12 a2 true a0_0 a0_1 a0_2 a0_3 a0_4 l0_5 a1_0 a1_1 a1_2 a1_3 a1_4) else (if a1_2 ≥ a2 then (steepleref25_System_Gate.j2 kj12 a2 true a0_0 a0_1 a0_2 a0_3 a0_4 l0_5 a1_0 a1_1 a1_2 a1_3 a1_4) else ((steepleref25_two.f a1_0).bind fun t117 => (if t117 = true then (if a1_3 < 0 then (steepleref25_System_Gate.j2 kj12 a2 true a0_0 a0_1 a0_2 a0_3 a0_4 l0_5 a1_0 a1_1 a1_2 a1_3 a1_4) else (steepleref25_System_Gate.j2 kj12 a2 (decide (a1_3 ≥ a2)) a0_0 a0_1 a0_2 a0_3 a0_4 l0_5 a1_0 a1_1 a1_2 a1_3 a1_4)) else (steepleref25_System_Gate.j2 kj12 a2 false a0_0 a0_1 a0_2 a0_3 a0_4 l0_5 a1_0 a1_1 a1_2 a1_3 a1_4))))) = some r := by rw [if_neg (show ¬ (false = true) by decide)] at H; exact H
       clear H; have H := H1; clear H1; have HC64 := Aside0.mk H; clear H
       go_upto_region 5 with (fail)
       go_cut [74] (fun v74 wc => ∃ (kq : Nat) (x74_63 : Bool), v74 = .bool x74_63 ∧ Aside0 (steepleref25_System_Gate.j2 kq a2 x74_63 a0_0 a0_1 a0_2 a0_3 a0_4 l0_5 a1_0 a1_1 a1_2 a1_3 a1_4 = some r) ∧ Aside0 (kq ≤ kj12) ∧ Aside0 (wc.heap[gb110]? = some (.cells #[.int .i64 a0_0, .int .i64 a0_1, .int .i64 a0_2, .int .i64 a0_3, .int .i64 a0_4, (.slice A0_5 l0_5.length c0_5)] 28 (0, 0))) ∧ Aside0 (wc.heap[gb111]? = some (.cells #[.int .i64 a1_0, .int .i64 a1_1, .int .i64 a1_2, .int .i64 a1_3, .int .i64 a1_4] 106 (0, 0))) ∧ Aside0 (Below w.heap.size w wc))
       case first =>
        have H := HC64.out; clear HC64
        by_cases c65 : a1_2 < 0
        ·rw [if_pos c65] at H
         have c65b0 : decide (a1_2 < 0) = true := decide_eq_true c65; clear c65
         (first | rw [c65b0] | (simp only [i64_w, i32_w]; rw [c65b0]) | skip)
         have H' := Aside0.mk H; clear H; have hnb66 := NB111_110.out; have hnc66 := NB110_111.out
         have hcz67 := fun i => blk_cell BK111.out i
         have hfz67 := fun i => blk_frozen BK111.out i
         go_wp2
         go_meet
         case rel => exact ⟨_, (true), eqA, H', ⟨by have := HJ3.out; have := HJ12.out; first | omega | exact Nat.le_refl _⟩, ⟨bkA BK110.out⟩, ⟨bkA BK111.out⟩, ⟨blA HB.out⟩⟩
        ·rw [if_neg c65] at H
         have c65b0 : decide (a1_2 < 0) = false := decide_eq_false c65; clear c65
         (first | rw [c65b0] | (simp only [i64_w, i32_w]; rw [c65b0]) | skip)
         by_cases c68 : a1_2 ≥ a2
         ·rw [if_pos c68] at H
          have c68b0 : decide (a2 ≤ a1_2) = true := decide_eq_true c68; clear c68; have H' := Aside0.mk H; clear H; have hnb69 := NB111_110.out; have hnc69 := NB110_111.out
          have hcz70 := fun i => blk_cell BK111.out i
          have hfz70 := fun i => blk_frozen BK111.out i
          go_wp2
          go_meet
          case rel => exact ⟨_, (true), eqA, H', ⟨by have := HJ3.out; have := HJ12.out; first | omega | exact Nat.le_refl _⟩, ⟨bkA BK110.out⟩, ⟨bkA BK111.out⟩, ⟨blA HB.out⟩⟩
         ·rw [if_neg c68] at H
          have c68b0 : decide (a2 ≤ a1_2) = false := decide_eq_false c68; clear c68; replace H := Option.bind_eq_some_iff.mp H; obtain ⟨t117, A710, H⟩ := H
          (try dsimp only at H)
          have A71 := Aside0.mk A710; clear A710
          by_cases c72 : t117 = true
          ·subst c72
           have H1 : (if a1_3 < 0 then (steepleref25_System_Gate.j2 kj12 a2 true a0_0 a0_1 a0_2 a0_3 a0_4 l0_5 a1_0 a1_1 a1_2 a1_3 a1_4) else (steepleref25_System_Gate.j2 kj12 a2 (decide (a1_3 ≥ a2)) a0_0 a0_1 a0_2 a0_3 a0_4 l0_5 a1_0 a1_1 a1_2 a1_3 a1_4)) = some r := by rw [if_pos rfl] at H; exact H
           clear H; have H := H1; clear H1
           by_cases c73 : a1_3 < 0
           ·rw [if_pos c73] at H
            have c73b0 : decide (a1_3 < 0) = true := decide_eq_true c73; clear c73; have H' := Aside0.mk H; clear H; have hnb74 := NB111_110.out; have hnc74 := NB110_111.out
            have hcz75 := fun i => blk_cell BK111.out i
            have hfz75 := fun i => blk_frozen BK111.out i
            go_wp2_with (first | (go_at_call 89; (with_reducible refine (steepleref25_two.calls a1_0 true _ A71.out).mono ?_); rintro e w' ⟨rfl, ⟨nd, rfl⟩⟩))
            go_meet
            case rel => exact ⟨_, (true), eqA, H', ⟨by have := HJ3.out; have := HJ12.out; first | omega | exact Nat.le_refl _⟩, ⟨bkA BK110.out⟩, ⟨bkA BK111.out⟩, ⟨blA HB.out⟩⟩
           ·rw [if_neg c73] at H
            have c73b0 : decide (a1_3 < 0) = false := decide_eq_false c73; clear c73; have H' := Aside0.mk H; clear H; have hnb76 := NB111_110.out; have hnc76 := NB110_111.out
            have hcz77 := fun i => blk_cell BK111.out i
            have hfz77 := fun i => blk_frozen BK111.out i
            go_wp2_with (first | (go_at_call 89; (with_reducible refine (steepleref25_two.calls a1_0 true _ A71.out).mono ?_); rintro e w' ⟨rfl, ⟨nd, rfl⟩⟩))
            go_meet
            case rel => exact ⟨_, (decide (a1_3 ≥ a2)), eqA, H', ⟨by have := HJ3.out; have := HJ12.out; first | omega | exact Nat.le_refl _⟩, ⟨bkA BK110.out⟩, ⟨bkA BK111.out⟩, ⟨blA HB.out⟩⟩
          ·replace c72 := Bool.eq_false_iff.mpr c72; subst c72
           have H1 : (steepleref25_System_Gate.j2 kj12 a2 false a0_0 a0_1 a0_2 a0_3 a0_4 l0_5 a1_0 a1_1 a1_2 a1_3 a1_4) = some r := by rw [if_neg (show ¬ (false = true) by decide)] at H; exact H
           clear H; have H := H1; clear H1; have H' := Aside0.mk H; clear H; have hnb78 := NB111_110.out; have hnc78 := NB110_111.out
           have hcz79 := fun i => blk_cell BK111.out i
           have hfz79 := fun i => blk_frozen BK111.out i
           go_wp2_with (first | (go_at_call 89; (with_reducible refine (steepleref25_two.calls a1_0 false _ A71.out).mono ?_); rintro e w' ⟨rfl, ⟨nd, rfl⟩⟩))
           go_meet
           case rel => exact ⟨_, (false), eqA, H', ⟨by have := HJ3.out; have := HJ12.out; first | omega | exact Nat.le_refl _⟩, ⟨bkA BK110.out⟩, ⟨bkA BK111.out⟩, ⟨blA HB.out⟩⟩
       case rest =>
        clear HC64; (try clear c1); (try clear c2); (try clear p2); (try clear c3); (try clear c4); (try clear c5); (try clear c6); (try clear c7); (try clear c7b0); (try clear c8); (try clear c10); (try clear c12); (try clear c15); (try clear c16); (try clear c16b0); (try clear c16b1); (try clear c17); (try clear c17b0); (try clear c17b1); (try clear c19); (try clear c20); (try clear c22); (try clear c22b0); (try clear c22b1); (try clear c23); (try clear c25); (try clear c27); (try clear c30); (try clear c31); (try clear c33); (try clear c33b0); (try clear c33b1); (try clear c34); (try clear c36); (try clear c38); (try clear c38b0); (try clear c38b1); (try clear c39); (try clear c39b0); (try clear c39b1); (try clear c40); (try clear c40b0); (try clear c40b1); (try clear c42); (try clear c43); (try clear c45); (try clear c45b0); (try clear c45b1); (try clear c46); (try clear c48); (try clear c50); (try clear c53); (try clear c54); (try clear c56); (try clear c56b0); (try clear c56b1); (try clear c57); (try clear c59); (try clear c61); (try clear c63); (try clear c65); (try clear c65b0); (try clear c66); (try clear c68); (try clear c68b0); (try clear c69); (try clear c72); (try clear c73); (try clear c73b0); (try clear c74); (try clear c76); (try clear c78); (try clear hcz11); (try clear hcz21); (try clear hcz24); (try clear hcz26); (try clear hcz28); (try clear hcz32); (try clear hcz35); (try clear hcz37); (try clear hcz44); (try clear hcz47); (try clear hcz49); (try clear hcz51); (try clear hcz55); (try clear hcz58); (try clear hcz60); (try clear hcz62); (try clear hcz67); (try clear hcz70); (try clear hcz75); (try clear hcz77); (try clear hcz79); (try clear hcz9); (try clear hfz11); (try clear hfz21); (try clear hfz24); (try clear hfz26); (try clear hfz28); (try clear hfz32); (try clear hfz35); (try clear hfz37); (try clear hfz44); (try clear hfz47); (try clear hfz49); (try clear hfz51); (try clear hfz55); (try clear hfz58); (try clear hfz60); (try clear hfz62); (try clear hfz67); (try clear hfz70); (try clear hfz75); (try clear hfz77); (try clear hfz79); (try clear hfz9); (try clear p2); obtain ⟨kq, x74_63, rfl, HA, HJ63, BK110, BK111, HB⟩ := hcut
        cases kq with
        | zero => exact absurd HA.out (by simp [steepleref25_System_Gate.j2])
        | succ kj63 =>
         have H := HA.out; clear HA
         simp only [steepleref25_System_Gate.j2] at H
         by_cases c80 : x74_63 = true
         ·subst c80
          have H1 : (some 4) = some r := by rw [if_pos rfl] at H; exact H
          clear H; have H := H1; clear H1; obtain rfl := Option.some.inj H
          go_wp2
          go_ret
          exact ⟨by first | rfl | (simp [errW_none, errW_some] <;> rfl) | (simp [*, errW_none, errW_some] <;> rfl), blA HB.out⟩
         ·replace c80 := Bool.eq_false_iff.mpr c80; subst c80
          have H1 : ((steepleref25_shifts.f a1_0).bind fun t118 => (if t118 = true then ((steepleref18_Fits.f kj63 (wrap64 (a1_0 - 3)) a0_0 a1_4).bind fun t119 => (steepleref25_System_Gate.j3 kj63 a2 (!t119) a0_0 a0_1 a0_2 a0_3 a0_4 l0_5 a1_0 a1_1 a1_2 a1_3 a1_4)) else (steepleref25_System_Gate.j3 kj63 a2 false a0_0 a0_1 a0_2 a0_3 a0_4 l0_5 a1_0 a1_1 a1_2 a1_3 a1_4))) = some r := by rw [if_neg (show ¬ (false = true) by decide)] at H; exact H
          clear H; have H := H1; clear H1; have HC81 := Aside0.mk H; clear H
          go_upto_region 7 with (fail)
          go_cut [88] (fun v88 wc => ∃ (kq : Nat) (x88_80 : Bool), v88 = .bool x88_80 ∧ Aside0 (steepleref25_System_Gate.j3 kq a2 x88_80 a0_0 a0_1 a0_2 a0_3 a0_4 l0_5 a1_0 a1_1 a1_2 a1_3 a1_4 = some r) ∧ Aside0 (kq ≤ kj63) ∧ Aside0 (wc.heap[gb110]? = some (.cells #[.int .i64 a0_0, .int .i64 a0_1, .int .i64 a0_2, .int .i64 a0_3, .int .i64 a0_4, (.slice A0_5 l0_5.length c0_5)] 28 (0, 0))) ∧ Aside0 (wc.heap[gb111]? = some (.cells #[.int .i64 a1_0, .int .i64 a1_1, .int .i64 a1_2, .int .i64 a1_3, .int .i64 a1_4] 106 (0, 0))) ∧ Aside0 (Below w.heap.size w wc))
          case first =>
           have H := HC81.out; clear HC81; replace H := Option.bind_eq_some_iff.mp H; obtain ⟨t118, A820, H⟩ := H
           (try dsimp only at H)
           have A82 := Aside0.mk A820; clear A820
           by_cases c83 : t118 = true
           ·subst c83
            have H1 : ((steepleref18_Fits.f kj63 (wrap64 (a1_0 - 3)) a0_0 a1_4).bind fun t119 => (steepleref25_System_Gate.j3 kj63 a2 (!t119) a0_0 a0_1 a0_2 a0_3 a0_4 l0_5 a1_0 a1_1 a1_2 a1_3 a1_4)) = some r := by rw [if_pos rfl] at H; exact H
            clear H; have H := H1; clear H1; replace H := Option.bind_eq_some_iff.mp H; obtain ⟨t119, A840, H⟩ := H; replace H : (steepleref25_System_Gate.j3 kj63 a2 (!t119) a0_0 a0_1 a0_2 a0_3 a0_4 l0_5 a1_0 a1_1 a1_2 a1_3 a1_4) = some r := H; have A84 := Aside0.mk A840; clear A840; have H' := Aside0.mk H; clear H; have hnb85 := NB111_110.out; have hnc85 := NB110_111.out
            have hcz86 := fun i => blk_cell BK111.out i
            have hfz86 := fun i => blk_frozen BK111.out i
            go_wp2_with (first | ((with_reducible refine gate_callee (f := 90) rfl ?_); refine goesL_ (some 77) rfl rfl Try.func90 (by kernel_rfl) rfl #[.int .i64 a1_0] rfl gsA ?_; (with_reducible refine (steepleref25_shifts.calls a1_0 true _ A82.out).mono ?_); rintro e w' ⟨rfl, ⟨nd, rfl⟩⟩; refine ⟨_, rfl, ?_⟩; have hcz87 := fun i => blk_cell BK110.out i; have hfz87 := fun i => blk_frozen BK110.out i; ) | (go_at_call 56; (with_reducible refine (steepleref18_Fits.calls kj63 (wrap64 (a1_0 - 3)) a0_0 a1_4 t119 _ A84.out).mono ?_); rintro e w' ⟨rfl, ⟨nd, rfl⟩⟩))
            go_meet
            case rel => exact ⟨_, (!t119), eqA, H', ⟨by have := HJ3.out; have := HJ12.out; have := HJ63.out; first | omega | exact Nat.le_refl _⟩, ⟨bkA BK110.out⟩, ⟨bkA BK111.out⟩, ⟨blA HB.out⟩⟩
           ·replace c83 := Bool.eq_false_iff.mpr c83; subst c83
            have H1 : (steepleref25_System_Gate.j3 kj63 a2 false a0_0 a0_1 a0_2 a0_3 a0_4 l0_5 a1_0 a1_1 a1_2 a1_3 a1_4) = some r := by rw [if_neg (show ¬ (false = true) by decide)] at H; exact H
            clear H; have H := H1; clear H1; have H' := Aside0.mk H; clear H; have hnb88 := NB111_110.out; have hnc88 := NB110_111.out
            have hcz89 := fun i => blk_cell BK111.out i
            have hfz89 := fun i => blk_frozen BK111.out i
            go_wp2_with (first | ((with_reducible refine gate_callee (f := 90) rfl ?_); refine goesL_ (some 77) rfl rfl Try.func90 (by kernel_rfl) rfl #[.int .i64 a1_0] rfl gsA ?_; (with_reducible refine (steepleref25_shifts.calls a1_0 false _ A82.out).mono ?_); rintro e w' ⟨rfl, ⟨nd, rfl⟩⟩; refine ⟨_, rfl, ?_⟩))
            go_meet
            case rel => exact ⟨_, (false), eqA, H', ⟨by have := HJ3.out; have := HJ12.out; have := HJ63.out; first | omega | exact Nat.le_refl _⟩, ⟨bkA BK110.out⟩, ⟨bkA BK111.out⟩, ⟨blA HB.out⟩⟩
          case rest =>
           clear HC81; (try clear c1); (try clear c2); (try clear p2); (try clear c3); (try clear c4); (try clear c5); (try clear c6); (try clear p6); (try clear c7); (try clear c7b0); (try clear c8); (try clear c9); (try clear c10); (try clear c12); (try clear c15); (try clear c16); (try clear c16b0); (try clear c16b1); (try clear c17); (try clear c17b0); (try clear c17b1); (try clear c19); (try clear c20); (try clear c22); (try clear c22b0); (try clear c22b1); (try clear c23); (try clear c25); (try clear c27); (try clear c30); (try clear c31); (try clear c33); (try clear c33b0); (try clear c33b1); (try clear c34); (try clear c36); (try clear c38); (try clear c38b0); (try clear c38b1); (try clear c39); (try clear c39b0); (try clear c39b1); (try clear c40); (try clear c40b0); (try clear c40b1); (try clear c42); (try clear c43); (try clear c45); (try clear c45b0); (try clear c45b1); (try clear c46); (try clear c48); (try clear c50); (try clear c53); (try clear c54); (try clear c56); (try clear c56b0); (try clear c56b1); (try clear c57); (try clear c59); (try clear c61); (try clear c63); (try clear p64); (try clear c65); (try clear c65b0); (try clear c66); (try clear c68); (try clear c68b0); (try clear c69); (try clear c72); (try clear c73); (try clear c73b0); (try clear c74); (try clear c76); (try clear c78); (try clear c80); (try clear c83); (try clear c85); (try clear c88); (try clear hcz11); (try clear hcz21); (try clear hcz24); (try clear hcz26); (try clear hcz28); (try clear hcz32); (try clear hcz35); (try clear hcz37); (try clear hcz44); (try clear hcz47); (try clear hcz49); (try clear hcz51); (try clear hcz55); (try clear hcz58); (try clear hcz60); (try clear hcz62); (try clear hcz67); (try clear hcz70); (try clear hcz75); (try clear hcz77); (try clear hcz79); (try clear hcz86); (try clear hcz87); (try clear hcz89); (try clear hcz9); (try clear hfz11); (try clear hfz21); (try clear hfz24); (try clear hfz26); (try clear hfz28); (try clear hfz32); (try clear hfz35); (try clear hfz37); (try clear hfz44); (try clear hfz47); (try clear hfz49); (try clear hfz51); (try clear hfz55); (try clear hfz58); (try clear hfz60); (try clear hfz62); (try clear hfz67); (try clear hfz70); (try clear hfz75); (try clear hfz77); (try clear hfz79); (try clear hfz86); (try clear hfz87); (try clear hfz89); (try clear hfz9); (try clear p2); obtain ⟨kq, x88_80, rfl, HA, HJ80, BK110, BK111, HB⟩ := hcut
           cases kq with
           | zero => exact absurd HA.out (by simp [steepleref25_System_Gate.j3])
           | succ kj80 =>
            have H := HA.out; clear HA
            simp only [steepleref25_System_Gate.j3] at H
            by_cases c90 : x88_80 = true
            ·subst c90
             have H1 : (some 1) = some r := by rw [if_pos rfl] at H; exact H
             clear H; have H := H1; clear H1; obtain rfl := Option.some.inj H
             go_wp2
             go_ret
             exact ⟨by first | rfl | (simp [errW_none, errW_some] <;> rfl) | (simp [*, errW_none, errW_some] <;> rfl), blA HB.out⟩
            ·replace c90 := Bool.eq_false_iff.mpr c90; subst c90
             have H1 : (if a1_0 = 8 then (if a1_0 = 7 then (steepleref25_System_Gate.j4 kj80 a2 (a1_4 != (wrap64 (a2 + 1))) a0_0 a0_1 a0_2 a0_3 a0_4 l0_5 a1_0 a1_1 a1_2 a1_3 a1_4) else (steepleref25_System_Gate.j4 kj80 a2 false a0_0 a0_1 a0_2 a0_3 a0_4 l0_5 a1_0 a1_1 a1_2 a1_3 a1_4)) else (if a1_1 = a2 then (if a1_0 = 7 then (steepleref25_System_Gate.j4 kj80 a2 (a1_4 != (wrap64 (a2 + 1))) a0_0 a0_1 a0_2 a0_3 a0_4 l0_5 a1_0 a1_1 a1_2 a1_3 a1_4) else (steepleref25_System_Gate.j4 kj80 a2 false a0_0 a0_1 a0_2 a0_3 a0_4 l0_5 a1_0 a1_1 a1_2 a1_3 a1_4)) else (steepleref25_System_Gate.j4 kj80 a2 true a0_0 a0_1 a0_2 a0_3 a0_4 l0_5 a1_0 a1_1 a1_2 a1_3 a1_4))) = some r := by rw [if_neg (show ¬ (false = true) by decide)] at H; exact H
             clear H; have H := H1; clear H1; have HC91 := Aside0.mk H; clear H
             go_upto_region 9 with (fail)
             go_cut [109] (fun v109 wc => ∃ (kq : Nat) (x109_90 : Bool), v109 = .bool x109_90 ∧ Aside0 (steepleref25_System_Gate.j4 kq a2 x109_90 a0_0 a0_1 a0_2 a0_3 a0_4 l0_5 a1_0 a1_1 a1_2 a1_3 a1_4 = some r) ∧ Aside0 (kq ≤ kj80) ∧ Aside0 (wc.heap[gb110]? = some (.cells #[.int .i64 a0_0, .int .i64 a0_1, .int .i64 a0_2, .int .i64 a0_3, .int .i64 a0_4, (.slice A0_5 l0_5.length c0_5)] 28 (0, 0))) ∧ Aside0 (wc.heap[gb111]? = some (.cells #[.int .i64 a1_0, .int .i64 a1_1, .int .i64 a1_2, .int .i64 a1_3, .int .i64 a1_4] 106 (0, 0))) ∧ Aside0 (Below w.heap.size w wc))
             case first =>
              have H := HC91.out; clear HC91
              by_cases c92 : a1_0 = 8
              ·rw [if_pos c92] at H
               have c92b0 : (a1_0 == 8) = true := beq_iff_eq.mpr c92; have c92b1 : (a1_0 != 8) = false := bne_eq_false_iff_eq.mpr c92; clear c92
               (first | rw [c92b0] | (simp only [i64_w, i32_w]; rw [c92b0]) | skip)
               by_cases c93 : a1_0 = 7
               ·rw [if_pos c93] at H
                have c93b0 : (a1_0 == 7) = true := beq_iff_eq.mpr c93; have c93b1 : (a1_0 != 7) = false := bne_eq_false_iff_eq.mpr c93; clear c93; have H' := Aside0.mk H; clear H; have hnb94 := NB111_110.out; have hnc94 := NB110_111.out
                have hcz95 := fun i => blk_cell BK111.out i
                have hfz95 := fun i => blk_frozen BK111.out i
                go_wp2
                go_meet
                case rel => exact ⟨_, ((a1_4 != (wrap64 (a2 + 1)))), eqA, H', ⟨by have := HJ3.out; have := HJ12.out; have := HJ63.out; have := HJ80.out; first | omega | exact Nat.le_refl _⟩, ⟨bkA BK110.out⟩, ⟨bkA BK111.out⟩, ⟨blA HB.out⟩⟩
               ·rw [if_neg c93] at H
                have c93b0 : (a1_0 == 7) = false := beq_eq_false_iff_ne.mpr c93; have c93b1 : (a1_0 != 7) = true := bne_iff_ne.mpr c93; have H' := Aside0.mk H; clear H; have hnb96 := NB111_110.out; have hnc96 := NB110_111.out
                have hcz97 := fun i => blk_cell BK111.out i
                have hfz97 := fun i => blk_frozen BK111.out i
                go_wp2
                go_meet
                case rel => exact ⟨_, (false), eqA, H', ⟨by have := HJ3.out; have := HJ12.out; have := HJ63.out; have := HJ80.out; first | omega | exact Nat.le_refl _⟩, ⟨bkA BK110.out⟩, ⟨bkA BK111.out⟩, ⟨blA HB.out⟩⟩
              ·rw [if_neg c92] at H
               have c92b0 : (a1_0 == 8) = false := beq_eq_false_iff_ne.mpr c92; have c92b1 : (a1_0 != 8) = true := bne_iff_ne.mpr c92
               (first | rw [c92b0] | (simp only [i64_w, i32_w]; rw [c92b0]) | skip)
               by_cases c98 : a1_1 = a2
               ·rw [if_pos c98] at H
                have c98b0 : (a1_1 == a2) = true := beq_iff_eq.mpr c98; have c98b1 : (a1_1 != a2) = false := bne_eq_false_iff_eq.mpr c98; clear c98
                by_cases c99 : a1_0 = 7
                ·rw [if_pos c99] at H
                 have c99b0 : (a1_0 == 7) = true := beq_iff_eq.mpr c99; have c99b1 : (a1_0 != 7) = false := bne_eq_false_iff_eq.mpr c99; clear c99; have H' := Aside0.mk H; clear H; have hnb100 := NB111_110.out; have hnc100 := NB110_111.out
                 have hcz101 := fun i => blk_cell BK111.out i
                 have hfz101 := fun i => blk_frozen BK111.out i
                 go_wp2
                 go_meet
                 case rel => exact ⟨_, ((a1_4 != (wrap64 (a2 + 1)))), eqA, H', ⟨by have := HJ3.out; have := HJ12.out; have := HJ63.out; have := HJ80.out; first | omega | exact Nat.le_refl _⟩, ⟨bkA BK110.out⟩, ⟨bkA BK111.out⟩, ⟨blA HB.out⟩⟩
                ·rw [if_neg c99] at H
                 have c99b0 : (a1_0 == 7) = false := beq_eq_false_iff_ne.mpr c99; have c99b1 : (a1_0 != 7) = true := bne_iff_ne.mpr c99; have H' := Aside0.mk H; clear H; have hnb102 := NB111_110.out; have hnc102 := NB110_111.out
                 have hcz103 := fun i => blk_cell BK111.out i
                 have hfz103 := fun i => blk_frozen BK111.out i
                 go_wp2
                 go_meet
                 case rel => exact ⟨_, (false), eqA, H', ⟨by have := HJ3.out; have := HJ12.out; have := HJ63.out; have := HJ80.out; first | omega | exact Nat.le_refl _⟩, ⟨bkA BK110.out⟩, ⟨bkA BK111.out⟩, ⟨blA HB.out⟩⟩
               ·rw [if_neg c98] at H
                have c98b0 : (a1_1 == a2) = false := beq_eq_false_iff_ne.mpr c98; have c98b1 : (a1_1 != a2) = true := bne_iff_ne.mpr c98; have H' := Aside0.mk H; clear H; have hnb104 := NB111_110.out; have hnc104 := NB110_111.out
                have hcz105 := fun i => blk_cell BK111.out i
                have hfz105 := fun i => blk_frozen BK111.out i
                go_wp2
                go_meet
                case rel => exact ⟨_, (true), eqA, H', ⟨by have := HJ3.out; have := HJ12.out; have := HJ63.out; have := HJ80.out; first | omega | exact Nat.le_refl _⟩, ⟨bkA BK110.out⟩, ⟨bkA BK111.out⟩, ⟨blA HB.out⟩⟩
             case rest =>
              clear HC91; (try clear c1); (try clear c2); (try clear p2); (try clear c3); (try clear c4); (try clear c5); (try clear c6); (try clear p6); (try clear c7); (try clear c7b0); (try clear c8); (try clear c9); (try clear c10); (try clear c12); (try clear c15); (try clear c16); (try clear c16b0); (try clear c16b1); (try clear c17); (try clear c17b0); (try clear c17b1); (try clear c19); (try clear c20); (try clear c22); (try clear c22b0); (try clear c22b1); (try clear c23); (try clear c25); (try clear c27); (try clear c30); (try clear c31); (try clear c33); (try clear c33b0); (try clear c33b1); (try clear c34); (try clear c36); (try clear c38); (try clear c38b0); (try clear c38b1); (try clear c39); (try clear c39b0); (try clear c39b1); (try clear c40); (try clear c40b0); (try clear c40b1); (try clear c42); (try clear c43); (try clear c45); (try clear c45b0); (try clear c45b1); (try clear c46); (try clear c48); (try clear c50); (try clear c53); (try clear c54); (try clear c56); (try clear c56b0); (try clear c56b1); (try clear c57); (try clear c59); (try clear c61); (try clear c63); (try clear p64); (try clear c65); (try clear c65b0); (try clear c66); (try clear c68); (try clear c68b0); (try clear c69); (try clear c72); (try clear c73); (try clear c73b0); (try clear c74); (try clear c76); (try clear c78); (try clear c80); (try clear c83); (try clear c85); (try clear c88); (try clear c90); (try clear c92); (try clear c92b0); (try clear c92b1); (try clear c93); (try clear c93b0); (try clear c93b1); (try clear c94); (try clear c96); (try clear c98); (try clear c98b0); (try clear c98b1); (try clear c99); (try clear c99b0); (try clear c99b1); (try clear c100); (try clear c102); (try clear c104); (try clear hcz101); (try clear hcz103); (try clear hcz105); (try clear hcz11); (try clear hcz21); (try clear hcz24); (try clear hcz26); (try clear hcz28); (try clear hcz32); (try clear hcz35); (try clear hcz37); (try clear hcz44); (try clear hcz47); (try clear hcz49); (try clear hcz51); (try clear hcz55); (try clear hcz58); (try clear hcz60); (try clear hcz62); (try clear hcz67); (try clear hcz70); (try clear hcz75); (try clear hcz77); (try clear hcz79); (try clear hcz86); (try clear hcz87); (try clear hcz89); (try clear hcz95); (try clear hcz97); (try clear hcz9); (try clear hfz101); (try clear hfz103); (try clear hfz105); (try clear hfz11); (try clear hfz21); (try clear hfz24); (try clear hfz26); (try clear hfz28); (try clear hfz32); (try clear hfz35); (try clear hfz37); (try clear hfz44); (try clear hfz47); (try clear hfz49); (try clear hfz51); (try clear hfz55); (try clear hfz58); (try clear hfz60); (try clear hfz62); (try clear hfz67); (try clear hfz70); (try clear hfz75); (try clear hfz77); (try clear hfz79); (try clear hfz86); (try clear hfz87); (try clear hfz89); (try clear hfz95); (try clear hfz97); (try clear hfz9); (try clear p2); (try clear p6); (try clear p64); obtain ⟨kq, x109_90, rfl, HA, HJ90, BK110, BK111, HB⟩ := hcut
              cases kq with
              | zero => exact absurd HA.out (by simp [steepleref25_System_Gate.j4])
              | succ kj90 =>
               have H := HA.out; clear HA
               simp only [steepleref25_System_Gate.j4] at H
               by_cases c106 : x109_90 = true
               ·subst c106
                have H1 : (some 3) = some r := by rw [if_pos rfl] at H; exact H
                clear H; have H := H1; clear H1; obtain rfl := Option.some.inj H
                go_wp2
                go_ret
                exact ⟨by first | rfl | (simp [errW_none, errW_some] <;> rfl) | (simp [*, errW_none, errW_some] <;> rfl), blA HB.out⟩
               ·replace c106 := Bool.eq_false_iff.mpr c106; subst c106
                have H1 : ((steepleref25_Makes.f a1_0 a1_1 a1_2 a1_3 a1_4).bind fun t120 => ((steepleref15_Two.f kj90 a0_2).bind fun t121 => (if (wrap64 (a2 + t120)) > t121 then (some 2) else (some 0)))) = some r := by rw [if_neg (show ¬ (false = true) by decide)] at H; exact H
                clear H; have H := H1; clear H1; replace H := Option.bind_eq_some_iff.mp H; obtain ⟨t120, A1070, H⟩ := H
                (try dsimp only at H)
                have A107 := Aside0.mk A1070; clear A1070; replace H := Option.bind_eq_some_iff.mp H; obtain ⟨t121, A1080, H⟩ := H
                (try dsimp only at H)
                have A108 := Aside0.mk A1080; clear A1080
                by_cases c109 : (wrap64 (a2 + t120)) > t121
                ·rw [if_pos c109] at H
                 have c109b0 : decide (t121 < (wrap64 (a2 + t120))) = true := decide_eq_true c109; clear c109; obtain rfl := Option.some.inj H
                 try go_wp2
                 have n0_ := Aside0.mk (blk_drew BK110.out); have n1_ := Aside0.mk (blk_drew BK111.out); have n2_ := Aside0.mk (below_drew1 HB.out); clear BK110; clear BK111; clear HB; have BK110 := n0_; have BK111 := n1_; have HB := n2_; clear n0_ n1_ n2_
                 refine start_ (n := 8) (S := fun w' => w'.cell? ⟨gb111, 0, none⟩ = some (.int .i64 a1_0) ∧ w'.cell? ⟨gb111, 1, none⟩ = some (.int .i64 a1_1) ∧ w'.cell? ⟨gb111, 2, none⟩ = some (.int .i64 a1_2) ∧ w'.cell? ⟨gb111, 3, none⟩ = some (.int .i64 a1_3) ∧ w'.cell? ⟨gb111, 4, none⟩ = some (.int .i64 a1_4) ∧ w'.cell? ⟨gb110, 0, none⟩ = some (.int .i64 a0_0) ∧ w'.cell? ⟨gb110, 1, none⟩ = some (.int .i64 a0_1) ∧ w'.cell? ⟨gb110, 2, none⟩ = some (.int .i64 a0_2) ∧ w'.cell? ⟨gb110, 3, none⟩ = some (.int .i64 a0_3) ∧ w'.cell? ⟨gb110, 4, none⟩ = some (.int .i64 a0_4) ∧ w'.cell? ⟨gb110, 5, none⟩ = some (.slice A0_5 l0_5.length c0_5)) (ds := []) #[false, false, false, false, false, false, false, false] (by kernel_rfl) rfl rfl ⟨(blk_cell BK111.out 0).trans rfl, (blk_cell BK111.out 1).trans rfl, (blk_cell BK111.out 2).trans rfl, (blk_cell BK111.out 3).trans rfl, (blk_cell BK111.out 4).trans rfl, (blk_cell BK110.out 0).trans rfl, (blk_cell BK110.out 1).trans rfl, (blk_cell BK110.out 2).trans rfl, (blk_cell BK110.out 3).trans rfl, (blk_cell BK110.out 4).trans rfl, (blk_cell BK110.out 5).trans rfl⟩ (fun hHeld => ?_); refine with_tabW steepleref25_System_Gate.tab11 steepleref25_System_Gate.bits11 (fun HT_ HW_ => ?_)
                 generalize wc.drew = w110 at BK110 BK111 HB hHeld ⊢
                 refine pureA 0 (some 110) HT_.out ?_
                 refine pureA 4 (some 114) HT_.out ?_
                 refine takeA 1 (some 111) rfl HT_.out HW_.out hHeld (Or.inl ⟨by rfl, by rintro w' ⟨s0, s1, s2, s3, s4, s5, s6, s7, s8, s9, s10⟩; go_simp; with_reducible rfl⟩) ?_
                 refine takeA 5 (some 115) rfl HT_.out HW_.out hHeld (Or.inl ⟨by rfl, by rintro w' ⟨s0, s1, s2, s3, s4, s5, s6, s7, s8, s9, s10⟩; go_simp; with_reducible rfl⟩) ?_
                 refine one_ (i := 2) (N := some 112) #[true, true, true, false, true, true, false, false] rfl rfl (one_of HT_.out (by kernel_rfl)) (by decide) (fun K hK => ?_)
                 refine goes_ Try.func60 (by kernel_rfl) rfl #[.agg #[.int .i64 a1_0, .int .i64 a1_1, .int .i64 a1_2, .int .i64 a1_3, .int .i64 a1_4]] (by rfl) rfl rfl gsA ?_
                 with_reducible refine (steepleref25_Makes.calls a1_0 a1_1 a1_2 a1_3 a1_4 t120 _ A107.out).mono ?_
                 rintro e w111 ⟨rfl, hb⟩
                 refine ⟨_, rfl, ?_⟩
                 have n0_ := Aside0.mk (blk_below (bkA BK110.out) hb); have n1_ := Aside0.mk (blk_below (bkA BK111.out) hb); have n2_ := Aside0.mk (below_step (blA HB.out) hb); clear BK110; clear BK111; clear HB; have BK110 := n0_; have BK111 := n1_; have HB := n2_; clear n0_ n1_ n2_
                 (try clear hb)
                 refine hK.out _ _ ⟨(blk_cell BK111.out 0).trans rfl, (blk_cell BK111.out 1).trans rfl, (blk_cell BK111.out 2).trans rfl, (blk_cell BK111.out 3).trans rfl, (blk_cell BK111.out 4).trans rfl, (blk_cell BK110.out 0).trans rfl, (blk_cell BK110.out 1).trans rfl, (blk_cell BK110.out 2).trans rfl, (blk_cell BK110.out 3).trans rfl, (blk_cell BK110.out 4).trans rfl, (blk_cell BK110.out 5).trans rfl⟩ (fun hHeld => ?_)
                 clear hK K
                 refine normA ?_
                 refine pureA 3 (some 113) HT_.out ?_
                 refine one_ (i := 6) (N := some 116) #[true, true, true, true, true, true, true, false] rfl rfl (one_of HT_.out (by kernel_rfl)) (by decide) (fun K hK => ?_)
                 refine goes_ Try.func32 (by kernel_rfl) rfl #[.int .i64 a0_2] (by rfl) rfl rfl gsA ?_
                 with_reducible refine (steepleref15_Two.calls kj90 a0_2 t121 _ A108.out).mono ?_
                 rintro e w' ⟨rfl, ⟨nd, rfl⟩⟩
                 refine ⟨_, rfl, ?_⟩
                 refine hK.out _ _ ⟨(blk_cell BK111.out 0).trans rfl, (blk_cell BK111.out 1).trans rfl, (blk_cell BK111.out 2).trans rfl, (blk_cell BK111.out 3).trans rfl, (blk_cell BK111.out 4).trans rfl, (blk_cell BK110.out 0).trans rfl, (blk_cell BK110.out 1).trans rfl, (blk_cell BK110.out 2).trans rfl, (blk_cell BK110.out 3).trans rfl, (blk_cell BK110.out 4).trans rfl, (blk_cell BK110.out 5).trans rfl⟩ (fun hHeld => ?_)
                 clear hK K
                 refine normA ?_
                 refine pureA 7 (some 117) HT_.out ?_
                 refine done_ (done_of HT_.out (by kernel_rfl)) ?_
                 try go_wp2
                 go_ret
                 exact ⟨by first | rfl | (simp [errW_none, errW_some] <;> rfl) | (simp [*, errW_none, errW_some] <;> rfl), blA HB.out⟩
                ·rw [if_neg c109] at H
                 have c109b0 : decide (t121 < (wrap64 (a2 + t120))) = false := decide_eq_false c109; clear c109; obtain rfl := Option.some.inj H
                 try go_wp2
                 have n0_ := Aside0.mk (blk_drew BK110.out); have n1_ := Aside0.mk (blk_drew BK111.out); have n2_ := Aside0.mk (below_drew1 HB.out); clear BK110; clear BK111; clear HB; have BK110 := n0_; have BK111 := n1_; have HB := n2_; clear n0_ n1_ n2_
                 refine start_ (n := 8) (S := fun w' => w'.cell? ⟨gb111, 0, none⟩ = some (.int .i64 a1_0) ∧ w'.cell? ⟨gb111, 1, none⟩ = some (.int .i64 a1_1) ∧ w'.cell? ⟨gb111, 2, none⟩ = some (.int .i64 a1_2) ∧ w'.cell? ⟨gb111, 3, none⟩ = some (.int .i64 a1_3) ∧ w'.cell? ⟨gb111, 4, none⟩ = some (.int .i64 a1_4) ∧ w'.cell? ⟨gb110, 0, none⟩ = some (.int .i64 a0_0) ∧ w'.cell? ⟨gb110, 1, none⟩ = some (.int .i64 a0_1) ∧ w'.cell? ⟨gb110, 2, none⟩ = some (.int .i64 a0_2) ∧ w'.cell? ⟨gb110, 3, none⟩ = some (.int .i64 a0_3) ∧ w'.cell? ⟨gb110, 4, none⟩ = some (.int .i64 a0_4) ∧ w'.cell? ⟨gb110, 5, none⟩ = some (.slice A0_5 l0_5.length c0_5)) (ds := []) #[false, false, false, false, false, false, false, false] (by kernel_rfl) rfl rfl ⟨(blk_cell BK111.out 0).trans rfl, (blk_cell BK111.out 1).trans rfl, (blk_cell BK111.out 2).trans rfl, (blk_cell BK111.out 3).trans rfl, (blk_cell BK111.out 4).trans rfl, (blk_cell BK110.out 0).trans rfl, (blk_cell BK110.out 1).trans rfl, (blk_cell BK110.out 2).trans rfl, (blk_cell BK110.out 3).trans rfl, (blk_cell BK110.out 4).trans rfl, (blk_cell BK110.out 5).trans rfl⟩ (fun hHeld => ?_); refine with_tabW steepleref25_System_Gate.tab11 steepleref25_System_Gate.bits11 (fun HT_ HW_ => ?_)
                 generalize wc.drew = w112 at BK110 BK111 HB hHeld ⊢
                 refine pureA 0 (some 110) HT_.out ?_
                 refine pureA 4 (some 114) HT_.out ?_
                 refine takeA 1 (some 111) rfl HT_.out HW_.out hHeld (Or.inl ⟨by rfl, by rintro w' ⟨s0, s1, s2, s3, s4, s5, s6, s7, s8, s9, s10⟩; go_simp; with_reducible rfl⟩) ?_
                 refine takeA 5 (some 115) rfl HT_.out HW_.out hHeld (Or.inl ⟨by rfl, by rintro w' ⟨s0, s1, s2, s3, s4, s5, s6, s7, s8, s9, s10⟩; go_simp; with_reducible rfl⟩) ?_
                 refine one_ (i := 2) (N := some 112) #[true, true, true, false, true, true, false, false] rfl rfl (one_of HT_.out (by kernel_rfl)) (by decide) (fun K hK => ?_)
                 refine goes_ Try.func60 (by kernel_rfl) rfl #[.agg #[.int .i64 a1_0, .int .i64 a1_1, .int .i64 a1_2, .int .i64 a1_3, .int .i64 a1_4]] (by rfl) rfl rfl gsA ?_
                 with_reducible refine (steepleref25_Makes.calls a1_0 a1_1 a1_2 a1_3 a1_4 t120 _ A107.out).mono ?_
                 rintro e w113 ⟨rfl, hb⟩
                 refine ⟨_, rfl, ?_⟩
                 have n0_ := Aside0.mk (blk_below (bkA BK110.out) hb); have n1_ := Aside0.mk (blk_below (bkA BK111.out) hb); have n2_ := Aside0.mk (below_step (blA HB.out) hb); clear BK110; clear BK111; clear HB; have BK110 := n0_; have BK111 := n1_; have HB := n2_; clear n0_ n1_ n2_
                 (try clear hb)
                 refine hK.out _ _ ⟨(blk_cell BK111.out 0).trans rfl, (blk_cell BK111.out 1).trans rfl, (blk_cell BK111.out 2).trans rfl, (blk_cell BK111.out 3).trans rfl, (blk_cell BK111.out 4).trans rfl, (blk_cell BK110.out 0).trans rfl, (blk_cell BK110.out 1).trans rfl, (blk_cell BK110.out 2).trans rfl, (blk_cell BK110.out 3).trans rfl, (blk_cell BK110.out 4).trans rfl, (blk_cell BK110.out 5).trans rfl⟩ (fun hHeld => ?_)
                 clear hK K
                 refine normA ?_
                 refine pureA 3 (some 113) HT_.out ?_
                 refine one_ (i := 6) (N := some 116) #[true, true, true, true, true, true, true, false] rfl rfl (one_of HT_.out (by kernel_rfl)) (by decide) (fun K hK => ?_)
                 refine goes_ Try.func32 (by kernel_rfl) rfl #[.int .i64 a0_2] (by rfl) rfl rfl gsA ?_
                 with_reducible refine (steepleref15_Two.calls kj90 a0_2 t121 _ A108.out).mono ?_
                 rintro e w' ⟨rfl, ⟨nd, rfl⟩⟩
                 refine ⟨_, rfl, ?_⟩
                 refine hK.out _ _ ⟨(blk_cell BK111.out 0).trans rfl, (blk_cell BK111.out 1).trans rfl, (blk_cell BK111.out 2).trans rfl, (blk_cell BK111.out 3).trans rfl, (blk_cell BK111.out 4).trans rfl, (blk_cell BK110.out 0).trans rfl, (blk_cell BK110.out 1).trans rfl, (blk_cell BK110.out 2).trans rfl, (blk_cell BK110.out 3).trans rfl, (blk_cell BK110.out 4).trans rfl, (blk_cell BK110.out 5).trans rfl⟩ (fun hHeld => ?_)
                 clear hK K
                 refine normA ?_
                 refine pureA 7 (some 117) HT_.out ?_
                 refine done_ (done_of HT_.out (by kernel_rfl)) ?_
                 try go_wp2
                 go_ret
                 exact ⟨by first | rfl | (simp [errW_none, errW_some] <;> rfl) | (simp [*, errW_none, errW_some] <;> rfl), blA HB.out⟩
end Go.Proofs.Ythiiodgpdoljoaa.PLw
namespace Go.Proofs.Ythiiodgpdoljoaa.Bit
open Go.RowKit Go.Proofs.Ythiiodgpdoljoaa.PLw Go.Proofs.YthiiodgpdoljoaaW.PrintWords Go.Proofs.YthiiodgpdoljoaaW.PrintLast
set_option linter.unusedVariables false
set_option linter.unusedSimpArgs false
def p2 (n : Int) : Int := 2 ^ n.toNat
theorem p2_cases {n : Int} (h0 : 0 ≤ n) (h6 : n ≤ 6) : (n = 0 ∧ p2 n = 1) ∨ (n = 1 ∧ p2 n = 2) ∨ (n = 2 ∧ p2 n = 4) ∨ (n = 3 ∧ p2 n = 8) ∨ (n = 4 ∧ p2 n = 16) ∨ (n = 5 ∧ p2 n = 32) ∨ (n = 6 ∧ p2 n = 64) := by
  have : n = 0 ∨ n = 1 ∨ n = 2 ∨ n = 3 ∨ n = 4 ∨ n = 5 ∨ n = 6 := by omega
  rcases this with rfl | rfl | rfl | rfl | rfl | rfl | rfl <;> simp [p2]
theorem p2_bound {n : Int} (h0 : 0 ≤ n) (h6 : n ≤ 6) : 1 ≤ p2 n ∧ p2 n ≤ 64 := by
  rcases p2_cases h0 h6 with h | h | h | h | h | h | h <;> omega
theorem shl_p2 {n : Int} (h0 : 0 ≤ n) (h6 : n ≤ 6) : shl .i64 1 n = p2 n := by
  have : n = 0 ∨ n = 1 ∨ n = 2 ∨ n = 3 ∨ n = 4 ∨ n = 5 ∨ n = 6 := by omega
  rcases this with rfl | rfl | rfl | rfl | rfl | rfl | rfl <;> decide
def fits (kind w s : Int) : Bool := decide (0 ≤ kind ∧ kind ≤ 3 ∧ 0 ≤ w ∧ w ≤ 6 ∧ 0 ≤ s ∧ s < p2 w ∧ (kind = 0 → s = 0))
theorem turnFits (kind w s : Int) : turn_Fits.f kind w s = some (fits kind w s) := by
  unfold turn_Fits.f fits
  by_cases h1 : kind ≥ 0 <;> by_cases h2 : kind ≤ 3 <;> by_cases h3 : w ≥ 0 <;> by_cases h4 : w ≤ 6 <;> by_cases h5 : s ≥ 0 <;> simp [h1, h2, h3, h4, h5]
  rw [shl_p2 h3 h4]
  by_cases h6 : s < p2 w <;> by_cases h7 : kind = 0 <;> simp [h6, h7]
  rfl
def gErr (wide cols : Int) (g : S105) (n : Int) : Int :=
  if g.f0 < 1 ∨ 8 < g.f0 then 3
  else if (¬ (g.f0 = 1 ∨ g.f0 = 2 ∨ g.f0 = 7 ∨ g.f0 = 8) ∧ g.f3 ≠ 0) ∨ (g.f0 = 8 ∧ g.f1 ≠ 0) ∨ (¬ (4 ≤ g.f0 ∧ g.f0 ≤ 6) ∧ g.f0 ≠ 7 ∧ g.f4 ≠ 0) then 3
  else if g.f2 < 0 ∨ n ≤ g.f2 ∨ ((g.f0 = 1 ∨ g.f0 = 2 ∨ g.f0 = 7 ∨ g.f0 = 8) ∧ (g.f3 < 0 ∨ n ≤ g.f3)) then 4
  else if (4 ≤ g.f0 ∧ g.f0 ≤ 6) ∧ fits (g.f0 - 3) wide g.f4 = false then 1
  else if (g.f0 ≠ 8 ∧ g.f1 ≠ n) ∨ (g.f0 = 7 ∧ g.f4 ≠ n + 1) then 3
  else if n + (if g.f0 = 8 then 0 else if g.f0 = 7 then 2 else 1) > p2 cols then 2 else 0
def makes (k : Int) : Int := if k = 8 then 0 else if k = 7 then 2 else 1
theorem gateSpec (m : Nat) (wide rows cols pub priv : Int) (l : List S105) (g : S105) (n : Int) (hw : 0 ≤ wide) (hw5 : wide ≤ 5) (hc : 0 ≤ cols) (hc6 : cols ≤ 6) (hn : 0 ≤ n) (hn2 : n ≤ 64) :
    circuit_gate.f (m + 12) wide rows cols pub priv l g.f0 g.f1 g.f2 g.f3 g.f4 n = some (if gErr wide cols g n = 0 then (n + makes g.f0, 0) else (0, gErr wide cols g n)) := by
  obtain ⟨f0, f1, f2, f3, f4⟩ := g
  have hs := shl_p2 hc hc6
  have hb := p2_bound hc hc6
  have e1 := w64 (x := n + 1) (by omega) (by omega)
  have e2 := w64 (x := n + 1 + 1) (by omega) (by omega)
  have hf : f0 < 1 ∨ 8 < f0 ∨ f0 = 1 ∨ f0 = 2 ∨ f0 = 3 ∨ f0 = 4 ∨ f0 = 5 ∨ f0 = 6 ∨ f0 = 7 ∨ f0 = 8 := by omega
  rcases hf with h | h | rfl | rfl | rfl | rfl | rfl | rfl | rfl | rfl
  · have a1 : ¬ f0 = 7 := by omega
    have a2 : ¬ f0 = 1 := by omega
    have a3 : (f0 == 2) = false := by simp; omega
    have a4 : ¬ f0 = 8 := by omega
    have a5 : ¬ f0 = 4 := by omega
    have a6 : ¬ f0 = 5 := by omega
    have a7 : (f0 == 6) = false := by simp; omega
    have a8 : ¬ f0 = 3 := by omega
    have a9 : ¬ f0 = 6 := by omega
    simp [circuit_gate.f, circuit_needs.f, circuit_needs.j0, circuit_needs.j1, circuit_turned.f, circuit_gate.j0, gErr, a1, a2, a3, a4, a5, a6, a7, a8, a9, h]
  · have a1 : ¬ f0 = 7 := by omega
    have a2 : ¬ f0 = 1 := by omega
    have a3 : (f0 == 2) = false := by simp; omega
    have a4 : ¬ f0 = 8 := by omega
    have a5 : ¬ f0 = 4 := by omega
    have a6 : ¬ f0 = 5 := by omega
    have a7 : (f0 == 6) = false := by simp; omega
    have a8 : ¬ f0 = 3 := by omega
    have a9 : ¬ f0 = 6 := by omega
    have a0 : ¬ f0 < 1 := by omega
    simp [circuit_gate.f, circuit_needs.f, circuit_needs.j0, circuit_needs.j1, circuit_turned.f, circuit_gate.j0, gErr, a1, a2, a3, a4, a5, a6, a7, a8, a9, a0, h]
  all_goals simp [circuit_gate.f, circuit_needs.f, circuit_needs.j0, circuit_needs.j1, circuit_turned.f, circuit_gate.j0, circuit_gate.j1, circuit_gate.j2, circuit_gate.j3, circuit_gate.j4, turnFits, hs, e1, e2, gErr, makes, hc]
  all_goals clear hs
  all_goals grind
def walk (wide cols : Int) : List S105 → Int → Int × Int
  | [], n => (n, 0)
  | g :: gs, n => if gErr wide cols g n = 0 then walk wide cols gs (n + makes g.f0) else (0, gErr wide cols g n)
theorem gErr_ok {wide cols : Int} {g : S105} {n : Int} (h : gErr wide cols g n = 0) : 1 ≤ g.f0 ∧ g.f0 ≤ 8 ∧ n + makes g.f0 ≤ p2 cols := by
  unfold gErr makes at *
  grind
theorem makes_nonneg (k : Int) : 0 ≤ makes k ∧ makes k ≤ 2 := by unfold makes; grind
theorem rd105 (l : List S105) (i : Nat) (h : i < l.length) : rd_T105 l (i : Int) = l[i] := by simp [rd_T105, List.getD_eq_getElem?_getD, h]
theorem rd106 (l : List S106) (i : Nat) (h : i < l.length) : rd_T106 l (i : Int) = l[i] := by simp [rd_T106, List.getD_eq_getElem?_getD, h]
theorem lookLoop (wide rows cols pub priv : Int) (l : List S105) (hw : 0 ≤ wide) (hw5 : wide ≤ 5) (hc : 0 ≤ cols) (hc6 : cols ≤ 6) (hl : l.length ≤ 1000) (d : Nat) : ∀ (k i : Nat) (n : Int), l.length - i = d → i ≤ l.length → d + 20 < k → 0 ≤ n → n ≤ p2 cols →
    circuit_look.l0 k n l (l.length : Int) (i : Int) wide rows cols pub priv l = some (walk wide cols (l.drop i) n) := by
  have hb := p2_bound hc hc6
  induction d with
  | zero =>
    intro k i n hd hi hk hn hn2
    obtain ⟨k, rfl⟩ : ∃ m, k = m + 1 := ⟨k - 1, by omega⟩
    simp only [circuit_look.l0]
    rw [if_neg (by omega), List.drop_of_length_le (by omega)]
    rfl
  | succ d ih =>
    intro k i n hd hi hk hn hn2
    obtain ⟨k, rfl⟩ : ∃ m, k = m + 12 + 1 := ⟨k - 13, by omega⟩
    have hlt : i < l.length := by omega
    simp only [circuit_look.l0]
    rw [if_pos (by omega), if_pos (by omega), if_pos (by omega), rd105 l i hlt, gateSpec k wide rows cols pub priv l l[i] n hw hw5 hc hc6 hn (by omega)]
    rw [List.drop_eq_getElem_cons hlt]
    simp only [Option.bind_some, walk]
    by_cases he : gErr wide cols l[i] n = 0
    · have h3 := gErr_ok he
      have h4 := makes_nonneg l[i].f0
      simp only [he, if_true]
      rw [w64 (by omega) (by omega)]
      exact ih (k + 12) (i + 1) _ (by omega) (by omega) (by omega) (by omega) (by omega)
    · simp only [he, if_false]
def lookS (wide rows cols pub priv : Int) (l : List S105) : Int × Int :=
  if wide < 0 ∨ 5 < wide ∨ rows < 0 ∨ 4 < rows ∨ cols < 0 ∨ 6 < cols then (0, 1)
  else if pub < 0 ∨ priv < 0 ∨ p2 cols < pub ∨ p2 cols - pub < priv then (0, 1)
  else if 30 < l.length then (0, 2) else walk wide cols l (pub + priv)
theorem lookSpec (m : Nat) (wide rows cols pub priv : Int) (l : List S105) : circuit_look.f (m + 60) wide rows cols pub priv l = some (lookS wide rows cols pub priv l) := by
  unfold lookS
  by_cases h1 : wide < 0 ∨ 5 < wide ∨ rows < 0 ∨ 4 < rows ∨ cols < 0 ∨ 6 < cols
  · rw [if_pos h1]
    simp only [circuit_look.f, circuit_look.j0]
    grind
  · rw [if_neg h1]
    have hc : 0 ≤ cols := by omega
    have hc6 : cols ≤ 6 := by omega
    have hs := shl_p2 hc hc6
    have hb := p2_bound hc hc6
    have hj : circuit_look.f (m + 60) wide rows cols pub priv l = circuit_look.j0 (m + 60) false wide rows cols pub priv l := by
      simp only [circuit_look.f]
      rw [if_neg (by omega), if_neg (by omega), if_neg (by omega), if_neg (by omega), if_neg (by omega)]
      congr 1
      simp; omega
    rw [hj]
    simp only [circuit_look.j0, hs]
    by_cases h2 : pub < 0 ∨ priv < 0 ∨ p2 cols < pub ∨ p2 cols - pub < priv
    · rw [if_pos h2]
      simp only [circuit_look.j1]
      by_cases a1 : pub < 0
      · simp [a1]
      · by_cases a2 : priv < 0
        · simp [a1, a2]
        · by_cases a3 : p2 cols < pub
          · simp [a1, a2, a3, hc]
          · have : wrap64 (p2 cols - pub) = p2 cols - pub := w64 (by omega) (by omega)
            have a4 : p2 cols - pub < priv := by omega
            simp [a1, a2, a3, hc, this, a4]
    · rw [if_neg h2]
      have e1 : wrap64 (p2 cols - pub) = p2 cols - pub := w64 (by omega) (by omega)
      have e2 : wrap64 (pub + priv) = pub + priv := w64 (by omega) (by omega)
      have a1 : ¬ pub < 0 := by omega
      have a2 : ¬ priv < 0 := by omega
      have a3 : ¬ p2 cols < pub := by omega
      have a4 : ¬ p2 cols - pub < priv := by omega
      simp only [a1, a2, hc, if_false, if_true, gt_iff_lt, a3, e1, a4, decide_false, circuit_look.j1, Bool.false_eq_true, e2]
      by_cases h3 : 30 < l.length
      · rw [if_pos (by omega), if_pos h3]
      · rw [if_neg (by omega), if_neg h3]
        exact lookLoop wide rows cols pub priv l (by omega) (by omega) hc hc6 (by omega) l.length _ 0 (pub + priv) (by omega) (by omega) (by omega) (by omega) (by omega)
end Go.Proofs.Ythiiodgpdoljoaa.Bit
