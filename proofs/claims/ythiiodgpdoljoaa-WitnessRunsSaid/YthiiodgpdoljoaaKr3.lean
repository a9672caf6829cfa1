import Derived.Test.YthiiodgpdoljoaaKr1
import Derived.Test.YthiiodgpdoljoaaKr0
import Derived.Test.YthiiodgpdoljoaaKr2
-- Words and walks that the kit's print has laid for this seat, cut down, and our own texts, merged.
namespace Go.Proofs.Ythiiodgpdoljoaa.PLw
open Go.RowKit Go.Proofs.YthiiodgpdoljoaaW.PrintWords Go.Proofs.YthiiodgpdoljoaaW.PrintLast Go.Proofs.YthiiodgpdoljoaaW.PrintMore
attribute [local go_sem] max2_int min2_int max_two min_two max_three min_three max_four min_four   -- for this text's walks alone
set_option linter.unusedVariables false
set_option linter.unusedSimpArgs false
/-! ### steepleref27_Made: function 69 -/
mutual
def steepleref27_Made.j0 : Nat → List Bool → List Bool → Bool → Int → Int → Int → Int → Int → List (S106) → Int → Int → Int → Int → Int → Option (List Int)
 | 0, _, _, _, _, _, _, _, _, _, _, _, _, _, _ => none
 | k + 1, x9, x10, x31, x245000, x245001, x245002, x245003, x245004, x245005, x246000, x246001, x246002, x246003, x246004 => if x31 = true then ((steepleref18_Bits.f k (wrap64 (x246000 - 3)) x245000 x246004 x9).bind fun t252 => ((steepleref27_Number.f k t252).bind fun t255 => (some (([t255, 0] : List Int))))) else (steepleref27_Made.l0 k x9 x10 ([] : List Bool) ([] : List Bool) false 0 x246000 x246001 x246002 x246003 x246004)
def steepleref27_Made.l0 : Nat → List Bool → List Bool → List Bool → List Bool → Bool → Int → Int → Int → Int → Int → Int → Option (List Int)
 | 0, _, _, _, _, _, _, _, _, _, _, _ => none
 | k + 1, x9, x10, x11, x12, x13, x14, x246000, x246001, x246002, x246003, x246004 => if x14 < (x9.length : Int) then (if x246000 = 1 then (if 0 ≤ x14 then (if x14 < (x10.length : Int) then (steepleref27_Made.j2 k x9 x10 x11 x12 x13 x14 ((rdOf false x9 x14) != (rdOf false x10 x14)) x246000 x246001 x246002 x246003 x246004) else (none)) else (none)) else (steepleref27_Made.j2 k x9 x10 x11 x12 x13 x14 false x246000 x246001 x246002 x246003 x246004)) else ((steepleref27_Number.f k x11).bind fun t277 => ((steepleref27_Number.f k x12).bind fun t278 => (some (([t277, t278] : List Int)))))
def steepleref27_Made.j2 : Nat → List Bool → List Bool → List Bool → List Bool → Bool → Int → Bool → Int → Int → Int → Int → Int → Option (List Int)
 | 0, _, _, _, _, _, _, _, _, _, _, _, _ => none
 | k + 1, x9, x10, x11, x12, x13, x14, x15, x246000, x246001, x246002, x246003, x246004 => if x246000 = 2 then (if 0 ≤ x14 then (if x14 < (x9.length : Int) then (if rdOf false x9 x14 = true then (if x14 < (x10.length : Int) then (steepleref27_Made.j3 k x9 x10 x11 x12 x13 x14 (rdOf false x10 x14) x246000 x246001 x246002 x246003 x246004) else (none)) else (steepleref27_Made.j3 k x9 x10 x11 x12 x13 x14 false x246000 x246001 x246002 x246003 x246004)) else (none)) else (none)) else (steepleref27_Made.j3 k x9 x10 x11 x12 x13 x14 x15 x246000 x246001 x246002 x246003 x246004)
def steepleref27_Made.j3 : Nat → List Bool → List Bool → List Bool → List Bool → Bool → Int → Bool → Int → Int → Int → Int → Int → Option (List Int)
 | 0, _, _, _, _, _, _, _, _, _, _, _, _ => none
 | k + 1, x9, x10, x11, x12, x13, x14, x15, x246000, x246001, x246002, x246003, x246004 => if x246000 = 3 then (if 0 ≤ x14 then (if x14 < (x9.length : Int) then (steepleref27_Made.j4 k x9 x10 x11 x12 x13 x14 (!(rdOf false x9 x14)) x246000 x246001 x246002 x246003 x246004) else (none)) else (none)) else (steepleref27_Made.j4 k x9 x10 x11 x12 x13 x14 x15 x246000 x246001 x246002 x246003 x246004)
def steepleref27_Made.j4 : Nat → List Bool → List Bool → List Bool → List Bool → Bool → Int → Bool → Int → Int → Int → Int → Int → Option (List Int)
 | 0, _, _, _, _, _, _, _, _, _, _, _, _ => none
 | k + 1, x9, x10, x11, x12, x13, x14, x15, x246000, x246001, x246002, x246003, x246004 => if x246000 = 7 then (if 0 ≤ x14 then (if x14 < (x9.length : Int) then (if x14 < (x10.length : Int) then (if rdOf false x9 x14 = true then (if rdOf false x10 x14 = true then (steepleref27_Made.j5 k x9 x10 x11 x12 true x14 (((rdOf false x9 x14) != (rdOf false x10 x14)) != x13) x246000 x246001 x246002 x246003 x246004) else (if x13 = true then (steepleref27_Made.j5 k x9 x10 x11 x12 true x14 (((rdOf false x9 x14) != (rdOf false x10 x14)) != x13) x246000 x246001 x246002 x246003 x246004) else (steepleref27_Made.j5 k x9 x10 x11 x12 false x14 (((rdOf false x9 x14) != (rdOf false x10 x14)) != x13) x246000 x246001 x246002 x246003 x246004))) else (if x13 = true then (steepleref27_Made.j5 k x9 x10 x11 x12 (rdOf false x10 x14) x14 (((rdOf false x9 x14) != (rdOf false x10 x14)) != x13) x246000 x246001 x246002 x246003 x246004) else (steepleref27_Made.j5 k x9 x10 x11 x12 false x14 (((rdOf false x9 x14) != (rdOf false x10 x14)) != x13) x246000 x246001 x246002 x246003 x246004))) else (none)) else (none)) else (none)) else (steepleref27_Made.j5 k x9 x10 x11 x12 x13 x14 x15 x246000 x246001 x246002 x246003 x246004)
def steepleref27_Made.j5 : Nat → List Bool → List Bool → List Bool → List Bool → Bool → Int → Bool → Int → Int → Int → Int → Int → Option (List Int)
 | 0, _, _, _, _, _, _, _, _, _, _, _, _ => none
 | k + 1, x9, x10, x11, x12, x13, x14, x15, x246000, x246001, x246002, x246003, x246004 => if x11.length < 140737488355328 then (if x12.length < 140737488355328 then (steepleref27_Made.l0 k x9 x10 (x11 ++ [x15]) (x12 ++ [x13]) x13 (wrap64 (x14 + 1)) x246000 x246001 x246002 x246003 x246004) else (none)) else (none)
end
def steepleref27_Made.f (k : Nat) (a0_0 : Int) (a0_1 : Int) (a0_2 : Int) (a0_3 : Int) (a0_4 : Int) (l0_5 : List (S106)) (a1_0 : Int) (a1_1 : Int) (a1_2 : Int) (a1_3 : Int) (a1_4 : Int) (a2 : Int) (a3 : Int) : Option (List Int) := (steepleref27_Word.f k a0_0 a2).bind fun t246 => ((steepleref27_Word.f k a0_0 a3).bind fun t249 => (if a1_0 ≥ 4 then (steepleref27_Made.j0 k t246 t249 (decide (a1_0 ≤ 6)) a0_0 a0_1 a0_2 a0_3 a0_4 l0_5 a1_0 a1_1 a1_2 a1_3 a1_4) else (steepleref27_Made.j0 k t246 t249 false a0_0 a0_1 a0_2 a0_3 a0_4 l0_5 a1_0 a1_1 a1_2 a1_3 a1_4)))
theorem steepleref27_Made.mono_l : ∀ k, (∀ y0 y1 y2 y3 y4 y5 y6 y7 y8 y9 y10 y11 y12 y13, LeO (steepleref27_Made.j0 k y0 y1 y2 y3 y4 y5 y6 y7 y8 y9 y10 y11 y12 y13) (steepleref27_Made.j0 (k + 1) y0 y1 y2 y3 y4 y5 y6 y7 y8 y9 y10 y11 y12 y13)) ∧ (∀ y0 y1 y2 y3 y4 y5 y6 y7 y8 y9 y10, LeO (steepleref27_Made.l0 k y0 y1 y2 y3 y4 y5 y6 y7 y8 y9 y10) (steepleref27_Made.l0 (k + 1) y0 y1 y2 y3 y4 y5 y6 y7 y8 y9 y10)) ∧ (∀ y0 y1 y2 y3 y4 y5 y6 y7 y8 y9 y10 y11, LeO (steepleref27_Made.j2 k y0 y1 y2 y3 y4 y5 y6 y7 y8 y9 y10 y11) (steepleref27_Made.j2 (k + 1) y0 y1 y2 y3 y4 y5 y6 y7 y8 y9 y10 y11)) ∧ (∀ y0 y1 y2 y3 y4 y5 y6 y7 y8 y9 y10 y11, LeO (steepleref27_Made.j3 k y0 y1 y2 y3 y4 y5 y6 y7 y8 y9 y10 y11) (steepleref27_Made.j3 (k + 1) y0 y1 y2 y3 y4 y5 y6 y7 y8 y9 y10 y11)) ∧ (∀ y0 y1 y2 y3 y4 y5 y6 y7 y8 y9 y10 y11, LeO (steepleref27_Made.j4 k y0 y1 y2 y3 y4 y5 y6 y7 y8 y9 y10 y11) (steepleref27_Made.j4 (k + 1) y0 y1 y2 y3 y4 y5 y6 y7 y8 y9 y10 y11)) ∧ (∀ y0 y1 y2 y3 y4 y5 y6 y7 y8 y9 y10 y11, LeO (steepleref27_Made.j5 k y0 y1 y2 y3 y4 y5 y6 y7 y8 y9 y10 y11) (steepleref27_Made.j5 (k + 1) y0 y1 y2 y3 y4 y5 y6 y7 y8 y9 y10 y11))
 | 0 => ⟨fun _ _ _ _ _ _ _ _ _ _ _ _ _ _ r h => by simp [steepleref27_Made.j0] at h, fun _ _ _ _ _ _ _ _ _ _ _ r h => by simp [steepleref27_Made.l0] at h, fun _ _ _ _ _ _ _ _ _ _ _ _ r h => by simp [steepleref27_Made.j2] at h, fun _ _ _ _ _ _ _ _ _ _ _ _ r h => by simp [steepleref27_Made.j3] at h, fun _ _ _ _ _ _ _ _ _ _ _ _ r h => by simp [steepleref27_Made.j4] at h, fun _ _ _ _ _ _ _ _ _ _ _ _ r h => by simp [steepleref27_Made.j5] at h⟩
 | k + 1 => by
  obtain ⟨ih0, ih1, ih2, ih3, ih4, ih5⟩ := steepleref27_Made.mono_l k
  refine ⟨?_, ?_, ?_, ?_, ?_, ?_⟩
  ·intro y0 y1 y2 y3 y4 y5 y6 y7 y8 y9 y10 y11 y12 y13
   unfold steepleref27_Made.j0
   repeat' first
   | (with_reducible exact ih0 _ _ _ _ _ _ _ _ _ _ _ _ _ _)
   | (with_reducible exact ih1 _ _ _ _ _ _ _ _ _ _ _)
   | (with_reducible exact ih2 _ _ _ _ _ _ _ _ _ _ _ _)
   | (with_reducible exact ih3 _ _ _ _ _ _ _ _ _ _ _ _)
   | (with_reducible exact ih4 _ _ _ _ _ _ _ _ _ _ _ _)
   | (with_reducible exact ih5 _ _ _ _ _ _ _ _ _ _ _ _)
   | (with_reducible exact steepleref18_Bits.mono _ _ _ _ _)
   | (with_reducible exact steepleref27_Number.mono _ _)
   | (with_reducible exact steepleref27_Word.mono _ _ _)
   | (with_reducible exact LeO.refl _)
   | (with_reducible exact LeO.none _)
   | (with_reducible refine LeO.ite ?_ ?_)
   | (with_reducible refine LeO.bind ?_ (fun _ => ?_))
   | exact ih0 _ _ _ _ _ _ _ _ _ _ _ _ _ _
   | exact ih1 _ _ _ _ _ _ _ _ _ _ _
   | exact ih2 _ _ _ _ _ _ _ _ _ _ _ _
   | exact ih3 _ _ _ _ _ _ _ _ _ _ _ _
   | exact ih4 _ _ _ _ _ _ _ _ _ _ _ _
   | exact ih5 _ _ _ _ _ _ _ _ _ _ _ _
   | exact steepleref18_Bits.mono _ _ _ _ _
   | exact steepleref27_Number.mono _ _
   | exact steepleref27_Word.mono _ _ _
   | exact LeO.none _
   | refine LeO.ite ?_ ?_
   | refine LeO.bind ?_ (fun _ => ?_)
  ·intro y0 y1 y2 y3 y4 y5 y6 y7 y8 y9 y10
   unfold steepleref27_Made.l0
   repeat' first
   | (with_reducible exact ih0 _ _ _ _ _ _ _ _ _ _ _ _ _ _)
   | (with_reducible exact ih1 _ _ _ _ _ _ _ _ _ _ _)
   | (with_reducible exact ih2 _ _ _ _ _ _ _ _ _ _ _ _)
   | (with_reducible exact ih3 _ _ _ _ _ _ _ _ _ _ _ _)
   | (with_reducible exact ih4 _ _ _ _ _ _ _ _ _ _ _ _)
   | (with_reducible exact ih5 _ _ _ _ _ _ _ _ _ _ _ _)
   | (with_reducible exact steepleref18_Bits.mono _ _ _ _ _)
   | (with_reducible exact steepleref27_Number.mono _ _)
   | (with_reducible exact steepleref27_Word.mono _ _ _)
   | (with_reducible exact LeO.refl _)
   | (with_reducible exact LeO.none _)
   | (with_reducible refine LeO.ite ?_ ?_)
   | (with_reducible refine LeO.bind ?_ (fun _ => ?_))
   | exact ih0 _ _ _ _ _ _ _ _ _ _ _ _ _ _
   | exact ih1 _ _ _ _ _ _ _ _ _ _ _
   | exact ih2 _ _ _ _ _ _ _ _ _ _ _ _
   | exact ih3 _ _ _ _ _ _ _ _ _ _ _ _
   | exact ih4 _ _ _ _ _ _ _ _ _ _ _ _
   | exact ih5 _ _ _ _ _ _ _ _ _ _ _ _
   | exact steepleref18_Bits.mono _ _ _ _ _
   | exact steepleref27_Number.mono _ _
   | exact steepleref27_Word.mono _ _ _
   | exact LeO.none _
   | refine LeO.ite ?_ ?_
   | refine LeO.bind ?_ (fun _ => ?_)
  ·intro y0 y1 y2 y3 y4 y5 y6 y7 y8 y9 y10 y11
   unfold steepleref27_Made.j2
   repeat' first
   | (with_reducible exact ih0 _ _ _ _ _ _ _ _ _ _ _ _ _ _)
   | (with_reducible exact ih1 _ _ _ _ _ _ _ _ _ _ _)
   | (with_reducible exact ih2 _ _ _ _ _ _ _ _ _ _ _ _)
   | (with_reducible exact ih3 _ _ _ _ _ _ _ _ _ _ _ _)
   | (with_reducible exact ih4 _ _ _ _ _ _ _ _ _ _ _ _)
   | (with_reducible exact ih5 _ _ _ _ _ _ _ _ _ _ _ _)
   | (with_reducible exact steepleref18_Bits.mono _ _ _ _ _)
   | (with_reducible exact steepleref27_Number.mono _ _)
   | (with_reducible exact steepleref27_Word.mono _ _ _)
   | (with_reducible exact LeO.refl _)
   | (with_reducible exact LeO.none _)
   | (with_reducible refine LeO.ite ?_ ?_)
   | (with_reducible refine LeO.bind ?_ (fun _ => ?_))
   | exact ih0 _ _ _ _ _ _ _ _ _ _ _ _ _ _
   | exact ih1 _ _ _ _ _ _ _ _ _ _ _
   | exact ih2 _ _ _ _ _ _ _ _ _ _ _ _
   | exact ih3 _ _ _ _ _ _ _ _ _ _ _ _
   | exact ih4 _ _ _ _ _ _ _ _ _ _ _ _
   | exact ih5 _ _ _ _ _ _ _ _ _ _ _ _
   | exact steepleref18_Bits.mono _ _ _ _ _
   | exact steepleref27_Number.mono _ _
   | exact steepleref27_Word.mono _ _ _
   | exact LeO.none _
   | refine LeO.ite ?_ ?_
   | refine LeO.bind ?_ (fun _ => ?_)
  ·intro y0 y1 y2 y3 y4 y5 y6 y7 y8 y9 y10 y11
   unfold steepleref27_Made.j3
   repeat' first
   | (with_reducible exact ih0 _ _ _ _ _ _ _ _ _ _ _ _ _ _)
   | (with_reducible exact ih1 _ _ _ _ _ _ _ _ _ _ _)
   | (with_reducible exact ih2 _ _ _ _ _ _ _ _ _ _ _ _)
   | (with_reducible exact ih3 _ _ _ _ _ _ _ _ _ _ _ _)
   | (with_reducible exact ih4 _ _ _ _ _ _ _ _ _ _ _ _)
   | (with_reducible exact ih5 _ _ _ _ _ _ _ _ _ _ _ _)
   | (with_reducible exact steepleref18_Bits.mono _ _ _ _ _)
   | (with_reducible exact steepleref27_Number.mono _ _)
   | (with_reducible exact steepleref27_Word.mono _ _ _)
   | (with_reducible exact LeO.refl _)
   | (with_reducible exact LeO.none _)
   | (with_reducible refine LeO.ite ?_ ?_)
   | (with_reducible refine LeO.bind ?_ (fun _ => ?_))
   | exact ih0 _ _ _ _ _ _ _ _ _ _ _ _ _ _
   | exact ih1 _ _ _ _ _ _ _ _ _ _ _
   | exact ih2 _ _ _ _ _ _ _ _ _ _ _ _
   | exact ih3 _ _ _ _ _ _ _ _ _ _ _ _
   | exact ih4 _ _ _ _ _ _ _ _ _ _ _ _
   | exact ih5 _ _ _ _ _ _ _ _ _ _ _ _
   | exact steepleref18_Bits.mono _ _ _ _ _
   | exact steepleref27_Number.mono _ _
   | exact steepleref27_Word.mono _ _ _
   | exact LeO.none _
   | refine LeO.ite ?_ ?_
   | refine LeO.bind ?_ (fun _ => ?_)
  ·intro y0 y1 y2 y3 y4 y5 y6 y7 y8 y9 y10 y11
   unfold steepleref27_Made.j4
   repeat' first
   | (with_reducible exact ih0 _ _ _ _ _ _ _ _ _ _ _ _ _ _)
   | (with_reducible exact ih1 _ _ _ _ _ _ _ _ _ _ _)
   | (with_reducible exact ih2 _ _ _ _ _ _ _ _ _ _ _ _)
   | (with_reducible exact ih3 _ _ _ _ _ _ _ _ _ _ _ _)
   | (with_reducible exact ih4 _ _ _ _ _ _ _ _ _ _ _ _)
   | (with_reducible exact ih5 _ _ _ _ _ _ _ _ _ _ _ _)
   | (with_reducible exact steepleref18_Bits.mono _ _ _ _ _)
   | (with_reducible exact steepleref27_Number.mono _ _)
   | (with_reducible exact steepleref27_Word.mono _ _ _)
   | (with_reducible exact LeO.refl _)
   | (with_reducible exact LeO.none _)
   | (with_reducible refine LeO.ite ?_ ?_)
   | (with_reducible refine LeO.bind ?_ (fun _ => ?_))
   | exact ih0 _ _ _ _ _ _ _ _ _ _ _ _ _ _
   | exact ih1 _ _ _ _ _ _ _ _ _ _ _
   | exact ih2 _ _ _ _ _ _ _ _ _ _ _ _
   | exact ih3 _ _ _ _ _ _ _ _ _ _ _ _
   | exact ih4 _ _ _ _ _ _ _ _ _ _ _ _
   | exact ih5 _ _ _ _ _ _ _ _ _ _ _ _
   | exact steepleref18_Bits.mono _ _ _ _ _
   | exact steepleref27_Number.mono _ _
   | exact steepleref27_Word.mono _ _ _
   | exact LeO.none _
   | refine LeO.ite ?_ ?_
   | refine LeO.bind ?_ (fun _ => ?_)
  ·intro y0 y1 y2 y3 y4 y5 y6 y7 y8 y9 y10 y11
   unfold steepleref27_Made.j5
   repeat' first
   | (with_reducible exact ih0 _ _ _ _ _ _ _ _ _ _ _ _ _ _)
   | (with_reducible exact ih1 _ _ _ _ _ _ _ _ _ _ _)
   | (with_reducible exact ih2 _ _ _ _ _ _ _ _ _ _ _ _)
   | (with_reducible exact ih3 _ _ _ _ _ _ _ _ _ _ _ _)
   | (with_reducible exact ih4 _ _ _ _ _ _ _ _ _ _ _ _)
   | (with_reducible exact ih5 _ _ _ _ _ _ _ _ _ _ _ _)
   | (with_reducible exact steepleref18_Bits.mono _ _ _ _ _)
   | (with_reducible exact steepleref27_Number.mono _ _)
   | (with_reducible exact steepleref27_Word.mono _ _ _)
   | (with_reducible exact LeO.refl _)
   | (with_reducible exact LeO.none _)
   | (with_reducible refine LeO.ite ?_ ?_)
   | (with_reducible refine LeO.bind ?_ (fun _ => ?_))
   | exact ih0 _ _ _ _ _ _ _ _ _ _ _ _ _ _
   | exact ih1 _ _ _ _ _ _ _ _ _ _ _
   | exact ih2 _ _ _ _ _ _ _ _ _ _ _ _
   | exact ih3 _ _ _ _ _ _ _ _ _ _ _ _
   | exact ih4 _ _ _ _ _ _ _ _ _ _ _ _
   | exact ih5 _ _ _ _ _ _ _ _ _ _ _ _
   | exact steepleref18_Bits.mono _ _ _ _ _
   | exact steepleref27_Number.mono _ _
   | exact steepleref27_Word.mono _ _ _
   | exact LeO.none _
   | refine LeO.ite ?_ ?_
   | refine LeO.bind ?_ (fun _ => ?_)
theorem steepleref27_Made.mono : ∀ a0 a1 a2 a3 a4 a5 a6 a7 a8 a9 a10 a11 a12 k, LeO (steepleref27_Made.f k a0 a1 a2 a3 a4 a5 a6 a7 a8 a9 a10 a11 a12) (steepleref27_Made.f (k + 1) a0 a1 a2 a3 a4 a5 a6 a7 a8 a9 a10 a11 a12) := by
 intro a0 a1 a2 a3 a4 a5 a6 a7 a8 a9 a10 a11 a12 k
 obtain ⟨ih0, ih1, ih2, ih3, ih4, ih5⟩ := steepleref27_Made.mono_l k
 unfold steepleref27_Made.f
 repeat' first
   | (with_reducible exact ih0 _ _ _ _ _ _ _ _ _ _ _ _ _ _)
   | (with_reducible exact ih1 _ _ _ _ _ _ _ _ _ _ _)
   | (with_reducible exact ih2 _ _ _ _ _ _ _ _ _ _ _ _)
   | (with_reducible exact ih3 _ _ _ _ _ _ _ _ _ _ _ _)
   | (with_reducible exact ih4 _ _ _ _ _ _ _ _ _ _ _ _)
   | (with_reducible exact ih5 _ _ _ _ _ _ _ _ _ _ _ _)
   | (with_reducible exact steepleref18_Bits.mono _ _ _ _ _)
   | (with_reducible exact steepleref27_Number.mono _ _)
   | (with_reducible exact steepleref27_Word.mono _ _ _)
   | (with_reducible exact LeO.refl _)
   | (with_reducible exact LeO.none _)
   | (with_reducible refine LeO.ite ?_ ?_)
   | (with_reducible refine LeO.bind ?_ (fun _ => ?_))
   | exact ih0 _ _ _ _ _ _ _ _ _ _ _ _ _ _
   | exact ih1 _ _ _ _ _ _ _ _ _ _ _
   | exact ih2 _ _ _ _ _ _ _ _ _ _ _ _
   | exact ih3 _ _ _ _ _ _ _ _ _ _ _ _
   | exact ih4 _ _ _ _ _ _ _ _ _ _ _ _
   | exact ih5 _ _ _ _ _ _ _ _ _ _ _ _
   | exact steepleref18_Bits.mono _ _ _ _ _
   | exact steepleref27_Number.mono _ _
   | exact steepleref27_Word.mono _ _ _
   | exact LeO.none _
   | refine LeO.ite ?_ ?_
   | refine LeO.bind ?_ (fun _ => ?_)
set_option maxHeartbeats 8000000 in
set_option maxRecDepth 100000 in
theorem steepleref27_Made.calls (k : Nat) (a0_0 : Int) (a0_1 : Int) (a0_2 : Int) (a0_3 : Int) (a0_4 : Int) (A0_5 : Option Addr) (c0_5 : Nat) (l0_5 : List (S106)) (a1_0 : Int) (a1_1 : Int) (a1_2 : Int) (a1_3 : Int) (a1_4 : Int) (a2 : Int) (a3 : Int) (r : List Int) (w : World) (hr0_5 : Kd.C k106 w A0_5 l0_5.length l0_5) (hc0_5 : l0_5.length ≤ c0_5) (h : steepleref27_Made.f k a0_0 a0_1 a0_2 a0_3 a0_4 l0_5 a1_0 a1_1 a1_2 a1_3 a1_4 a2 a3 = some r) :
  Calls Try.prog 69 #[.agg #[.int .i64 a0_0, .int .i64 a0_1, .int .i64 a0_2, .int .i64 a0_3, .int .i64 a0_4, .slice A0_5 l0_5.length c0_5], .agg #[.int .i64 a1_0, .int .i64 a1_1, .int .i64 a1_2, .int .i64 a1_3, .int .i64 a1_4], .int .u64 a2, .int .u64 a3] w fun e w' => ∃ v0_ : Value, e = .returned (v0_) ∧ Kd.R (Kd.int .u64) 43 w' w.heap.size (fun _ => True) v0_ r ∧ Below w.heap.size w w' := by
 have hu28 := Try.underlying28; have hu106 := Try.underlying106; have HR0_5 := Aside0.mk hr0_5; have HC0_5 := Aside0.mk hc0_5; clear hr0_5 hc0_5; have HB := Aside0.mk (Below.refl w.heap.size w)
 have H : ((steepleref27_Word.f k a0_0 a2).bind fun t246 => ((steepleref27_Word.f k a0_0 a3).bind fun t249 => (if a1_0 ≥ 4 then (steepleref27_Made.j0 k t246 t249 (decide (a1_0 ≤ 6)) a0_0 a0_1 a0_2 a0_3 a0_4 l0_5 a1_0 a1_1 a1_2 a1_3 a1_4) else (steepleref27_Made.j0 k t246 t249 false a0_0 a0_1 a0_2 a0_3 a0_4 l0_5 a1_0 a1_1 a1_2 a1_3 a1_4)))) = some r := h
 clear h; replace H := Option.bind_eq_some_iff.mp H; obtain ⟨t246, A50, H⟩ := H
 (try dsimp only at H)
 have A5 := Aside0.mk A50; clear A50; replace H := Option.bind_eq_some_iff.mp H; obtain ⟨t249, A60, H⟩ := H
 (try dsimp only at H)
 have A6 := Aside0.mk A60; clear A60; have HC7 := Aside0.mk H; clear H
 go_enter Try.func69, Try.ntmps69
 go_upto_region 3 with (first | ((with_reducible refine gate_dst (N := 4) rfl ?_); refine box_event ?hg (N := 4) ?hd (cs := #[.int .i64 a0_0, .int .i64 a0_1, .int .i64 a0_2, .int .i64 a0_3, .int .i64 a0_4, .slice A0_5 l0_5.length c0_5]) (t := 28) ?hr ?_; (case hd => rfl); (case hg => rfl); (case hr => first | (go_simp; done) | (go_simp; rfl)); intro gb244 hg w8 hbox hb; have n0_ := Aside0.mk (below_step (blA HB.out) hb); have n1_ := Aside0.mk (hbox); have n2_ := Aside0.mk ((by rw [hg]; exact (below_size (blA HB.out)) : w.heap.size ≤ gb244)); have n3_ := Aside0.mk ((by rw [hg]; exact (below_size (blA HB.out)) : w.heap.size ≤ gb244)); clear HB; have HB := n0_; have BK244 := n1_; have GW244 := n2_; have GE244 := n3_; clear n0_ n1_ n2_ n3_; clear hb hbox hg) | ((with_reducible refine gate_dst (N := 5) rfl ?_); refine box_event ?hg (N := 5) ?hd (cs := #[.int .i64 a1_0, .int .i64 a1_1, .int .i64 a1_2, .int .i64 a1_3, .int .i64 a1_4]) (t := 106) ?hr ?_; (case hd => rfl); (case hg => rfl); (case hr => first | (go_simp; done) | (go_simp; rfl)); intro gb245 hg w9 hbox hb; have n0_ := Aside0.mk (blk_below (bkA BK244.out) hb); have n1_ := Aside0.mk (below_step (blA HB.out) hb); have n2_ := Aside0.mk (hbox); have n3_ := Aside0.mk ((by rw [hg]; exact (below_size (blA HB.out)) : w.heap.size ≤ gb245)); have n4_ := Aside0.mk ((by rw [hg]; exact (below_size (blA HB.out)) : w.heap.size ≤ gb245)); have n5_ := Aside0.mk ((by rw [hg]; exact Nat.ne_of_lt (blk_lt (bkA BK244.out)) : gb244 ≠ gb245)); have n6_ := Aside0.mk ((by rw [hg]; exact Nat.ne_of_gt (blk_lt (bkA BK244.out)) : gb245 ≠ gb244)); clear BK244; clear HB; have BK244 := n0_; have HB := n1_; have BK245 := n2_; have GW245 := n3_; have GE245 := n4_; have NB244_245 := n5_; have NB245_244 := n6_; clear n0_ n1_ n2_ n3_ n4_ n5_ n6_; clear hb hbox hg; have hnb10 := NB244_245.out; have hnc10 := NB245_244.out; have hcz11 := fun i => blk_cell BK244.out i; have hfz11 := fun i => blk_frozen BK244.out i; ) | (go_at_call 77; (with_reducible refine (steepleref27_Word.calls k a0_0 a2 t246 _ A5.out).mono ?_); rintro e w12 ⟨v247, rfl, ho0, hb⟩; have n0_ := Aside0.mk (Kd.R_lower ho0 (below_size (blA HB.out))); have n1_ := Aside0.mk (blk_below (bkA BK244.out) hb); have n2_ := Aside0.mk (blk_below (bkA BK245.out) hb); have n3_ := Aside0.mk (below_step (blA HB.out) hb); clear BK244; clear BK245; clear HB; have HO248 := n0_; have BK244 := n1_; have BK245 := n2_; have HB := n3_; clear n0_ n1_ n2_ n3_; (try clear hb); (try clear ho0); have hcz13 := fun i => blk_cell BK244.out i; have hfz13 := fun i => blk_frozen BK244.out i; ) | (go_at_call 77; (with_reducible refine (steepleref27_Word.calls k a0_0 a3 t249 _ A6.out).mono ?_); rintro e w14 ⟨v250, rfl, ho0, hb⟩; have n0_ := Aside0.mk (Kd.R_elder' (raA HO248.out) (Kd.R_base ho0) hb); have n1_ := Aside0.mk (Kd.R_lower (Kd.R_new' ho0 (Kd.R_lt (raA HO248.out))) (below_size (blA HB.out))); have n2_ := Aside0.mk (blk_below (bkA BK244.out) hb); have n3_ := Aside0.mk (blk_below (bkA BK245.out) hb); have n4_ := Aside0.mk (below_step (blA HB.out) hb); clear HO248; clear BK244; clear BK245; clear HB; have HO248 := n0_; have HO251 := n1_; have BK244 := n2_; have BK245 := n3_; have HB := n4_; clear n0_ n1_ n2_ n3_ n4_; (try clear hb); (try clear ho0)))
 repeat (go_quiet (fail); go_upto_region 3 with (first | ((with_reducible refine gate_dst (N := 4) rfl ?_); refine box_event ?hg (N := 4) ?hd (cs := #[.int .i64 a0_0, .int .i64 a0_1, .int .i64 a0_2, .int .i64 a0_3, .int .i64 a0_4, .slice A0_5 l0_5.length c0_5]) (t := 28) ?hr ?_; (case hd => rfl); (case hg => rfl); (case hr => first | (go_simp; done) | (go_simp; rfl)); intro gb244 hg w8 hbox hb; have n0_ := Aside0.mk (below_step (blA HB.out) hb); have n1_ := Aside0.mk (hbox); have n2_ := Aside0.mk ((by rw [hg]; exact (below_size (blA HB.out)) : w.heap.size ≤ gb244)); have n3_ := Aside0.mk ((by rw [hg]; exact (below_size (blA HB.out)) : w.heap.size ≤ gb244)); clear HB; have HB := n0_; have BK244 := n1_; have GW244 := n2_; have GE244 := n3_; clear n0_ n1_ n2_ n3_; clear hb hbox hg) | ((with_reducible refine gate_dst (N := 5) rfl ?_); refine box_event ?hg (N := 5) ?hd (cs := #[.int .i64 a1_0, .int .i64 a1_1, .int .i64 a1_2, .int .i64 a1_3, .int .i64 a1_4]) (t := 106) ?hr ?_; (case hd => rfl); (case hg => rfl); (case hr => first | (go_simp; done) | (go_simp; rfl)); intro gb245 hg w9 hbox hb; have n0_ := Aside0.mk (blk_below (bkA BK244.out) hb); have n1_ := Aside0.mk (below_step (blA HB.out) hb); have n2_ := Aside0.mk (hbox); have n3_ := Aside0.mk ((by rw [hg]; exact (below_size (blA HB.out)) : w.heap.size ≤ gb245)); have n4_ := Aside0.mk ((by rw [hg]; exact (below_size (blA HB.out)) : w.heap.size ≤ gb245)); have n5_ := Aside0.mk ((by rw [hg]; exact Nat.ne_of_lt (blk_lt (bkA BK244.out)) : gb244 ≠ gb245)); have n6_ := Aside0.mk ((by rw [hg]; exact Nat.ne_of_gt (blk_lt (bkA BK244.out)) : gb245 ≠ gb244)); clear BK244; clear HB; have BK244 := n0_; have HB := n1_; have BK245 := n2_; have GW245 := n3_; have GE245 := n4_; have NB244_245 := n5_; have NB245_244 := n6_; clear n0_ n1_ n2_ n3_ n4_ n5_ n6_; clear hb hbox hg; have hnb10 := NB244_245.out; have hnc10 := NB245_244.out; have hcz11 := fun i => blk_cell BK244.out i; have hfz11 := fun i => blk_frozen BK244.out i; ) | (go_at_call 77; (with_reducible refine (steepleref27_Word.calls k a0_0 a2 t246 _ A5.out).mono ?_); rintro e w12 ⟨v247, rfl, ho0, hb⟩; have n0_ := Aside0.mk (Kd.R_lower ho0 (below_size (blA HB.out))); have n1_ := Aside0.mk (blk_below (bkA BK244.out) hb); have n2_ := Aside0.mk (blk_below (bkA BK245.out) hb); have n3_ := Aside0.mk (below_step (blA HB.out) hb); clear BK244; clear BK245; clear HB; have HO248 := n0_; have BK244 := n1_; have BK245 := n2_; have HB := n3_; clear n0_ n1_ n2_ n3_; (try clear hb); (try clear ho0); have hcz13 := fun i => blk_cell BK244.out i; have hfz13 := fun i => blk_frozen BK244.out i; ) | (go_at_call 77; (with_reducible refine (steepleref27_Word.calls k a0_0 a3 t249 _ A6.out).mono ?_); rintro e w14 ⟨v250, rfl, ho0, hb⟩; have n0_ := Aside0.mk (Kd.R_elder' (raA HO248.out) (Kd.R_base ho0) hb); have n1_ := Aside0.mk (Kd.R_lower (Kd.R_new' ho0 (Kd.R_lt (raA HO248.out))) (below_size (blA HB.out))); have n2_ := Aside0.mk (blk_below (bkA BK244.out) hb); have n3_ := Aside0.mk (blk_below (bkA BK245.out) hb); have n4_ := Aside0.mk (below_step (blA HB.out) hb); clear HO248; clear BK244; clear BK245; clear HB; have HO248 := n0_; have HO251 := n1_; have BK244 := n2_; have BK245 := n3_; have HB := n4_; clear n0_ n1_ n2_ n3_ n4_; (try clear hb); (try clear ho0))))
 (try simp only [Act.put, List.setIfInBounds_toArray, List.set_cons_zero, List.set_cons_succ])
 go_cut [31] (fun v31 wc => ∃ (kq : Nat) (x31_6 : Bool), v31 = .bool x31_6 ∧ Aside0 (steepleref27_Made.j0 kq t246 t249 x31_6 a0_0 a0_1 a0_2 a0_3 a0_4 l0_5 a1_0 a1_1 a1_2 a1_3 a1_4 = some r) ∧ Aside0 (kq ≤ k) ∧ Aside0 (Kd.R Kd.bool 4 wc w.heap.size (fun k_ => some k_ ≠ (v250 : Value).ownBlock) v247 t246) ∧ Aside0 (Kd.R Kd.bool 4 wc w.heap.size (fun k_ => some k_ ≠ (v247 : Value).ownBlock) v250 t249) ∧ Aside0 (wc.heap[gb244]? = some (.cells #[.int .i64 a0_0, .int .i64 a0_1, .int .i64 a0_2, .int .i64 a0_3, .int .i64 a0_4, (.slice A0_5 l0_5.length c0_5)] 28 (0, 0))) ∧ Aside0 (wc.heap[gb245]? = some (.cells #[.int .i64 a1_0, .int .i64 a1_1, .int .i64 a1_2, .int .i64 a1_3, .int .i64 a1_4] 106 (0, 0))) ∧ Aside0 (Below w.heap.size w wc))
 case first =>
  have H := HC7.out; clear HC7
  by_cases c15 : a1_0 ≥ 4
  ·rw [if_pos c15] at H
   have c15b0 : decide (4 ≤ a1_0) = true := decide_eq_true c15; clear c15
   (first | rw [c15b0] | (simp only [i64_w, i32_w]; rw [c15b0]) | skip)
   have H' := Aside0.mk H; clear H; have hnb16 := NB245_244.out; have hnc16 := NB244_245.out
   have hcz17 := fun i => blk_cell BK245.out i
   have hfz17 := fun i => blk_frozen BK245.out i
   go_wp2
   repeat (go_quiet (fail); try go_wp2)
   go_meet
   case rel => exact ⟨_, (decide (a1_0 ≤ 6)), eqA, H', ⟨omA⟩, ⟨by (with_reducible repeat (first | apply Kd.R_alloc | apply Kd.R_drewN | apply Kd.R_drew)); exact Kd.R_mono HO248.out (fun _ hk => hk.2)⟩, ⟨by (with_reducible repeat (first | apply Kd.R_alloc | apply Kd.R_drewN | apply Kd.R_drew)); exact Kd.R_mono HO251.out (fun _ hk => hk.2)⟩, ⟨bkA BK244.out⟩, ⟨bkA BK245.out⟩, ⟨blA HB.out⟩⟩
  ·rw [if_neg c15] at H
   have c15b0 : decide (4 ≤ a1_0) = false := decide_eq_false c15; clear c15
   (first | rw [c15b0] | (simp only [i64_w, i32_w]; rw [c15b0]) | skip)
   have H' := Aside0.mk H; clear H; have hnb18 := NB245_244.out; have hnc18 := NB244_245.out
   have hcz19 := fun i => blk_cell BK245.out i
   have hfz19 := fun i => blk_frozen BK245.out i
   go_wp2
   repeat (go_quiet (fail); try go_wp2)
   go_meet
   case rel => exact ⟨_, (false), eqA, H', ⟨omA⟩, ⟨by (with_reducible repeat (first | apply Kd.R_alloc | apply Kd.R_drewN | apply Kd.R_drew)); exact Kd.R_mono HO248.out (fun _ hk => hk.2)⟩, ⟨by (with_reducible repeat (first | apply Kd.R_alloc | apply Kd.R_drewN | apply Kd.R_drew)); exact Kd.R_mono HO251.out (fun _ hk => hk.2)⟩, ⟨bkA BK244.out⟩, ⟨bkA BK245.out⟩, ⟨blA HB.out⟩⟩
 case rest =>
  clear HC7; (try clear c1); (try clear p2); (try clear c6); (try clear c10); (try clear c15); (try clear c15b0); (try clear c16); (try clear c18); (try clear hcz11); (try clear hcz13); (try clear hcz17); (try clear hcz19); (try clear hfz11); (try clear hfz13); (try clear hfz17); (try clear hfz19); obtain ⟨kq, x31_6, rfl, HA, HJ6, HO_9, HO_10, BK244, BK245, HB⟩ := hcut
  cases kq with
  | zero => exact absurd HA.out (by simp [steepleref27_Made.j0])
  | succ kj6 =>
   have H := HA.out; clear HA
   simp only [steepleref27_Made.j0] at H
   by_cases c20 : x31_6 = true
   ·subst c20
    have H1 : ((steepleref18_Bits.f kj6 (wrap64 (a1_0 - 3)) a0_0 a1_4 t246).bind fun t252 => ((steepleref27_Number.f kj6 t252).bind fun t255 => (some (([t255, 0] : List Int))))) = some r := by rw [if_pos rfl] at H; exact H
    clear H; have H := H1; clear H1; replace H := Option.bind_eq_some_iff.mp H; obtain ⟨t252, A210, H⟩ := H
    (try dsimp only at H)
    have A21 := Aside0.mk A210; clear A210; replace H := Option.bind_eq_some_iff.mp H; obtain ⟨t255, A220, H⟩ := H; replace H : (some (([t255, 0] : List Int))) = some r := H; have A22 := Aside0.mk A220; clear A220
    obtain ⟨y256, hy256⟩ : ∃ y_ : List Int, y_ = (([t255, 0] : List Int)) := ⟨_, rfl⟩
    replace H : (some y256) = some r := by first | (rw [hy256]; with_reducible exact H) | (have H2_ := (Option.bind_some _ _).symm.trans H; rw [hy256]; with_reducible exact H2_) | (have H2_ := (Option.bind_some _ _).symm.trans H; with_reducible exact H2_) | with_reducible exact H | (rw [hy256]; exact H) | exact H
    have Ny256 := Aside0.mk hy256; clear hy256; obtain rfl := Option.some.inj H; have hnb23 := NB245_244.out; have hnc23 := NB244_245.out
    have hcz24 := fun i => blk_cell BK245.out i
    have hfz24 := fun i => blk_frozen BK245.out i
    have hcz25 := fun i => blk_cell BK244.out i
    have hfz25 := fun i => blk_frozen BK244.out i
    obtain ⟨Ao26, co26, eo26⟩ := Kd.R_slice HO_9.out; subst eo26
    go_wp2_with (first | (go_at_call 85; (with_reducible refine (steepleref18_Bits.calls kj6 (wrap64 (a1_0 - 3)) a0_0 a1_4 _ _ t246 t252 _ ?side1 ?side2 A21.out).mono ?_); (case side1 => repeat (first | exact (Kd.R_reads' HO_9.out).2.2 | (with_reducible refine Kd.C_alloc ?_ _) | (with_reducible refine Kd.C_drewN ?_ _) | (with_reducible refine Kd.C_drew ?_))); (case side2 => exact (Kd.R_reads' HO_9.out).2.1); rintro e w27 ⟨v253, rfl, ho0, hb⟩; have n0_ := Aside0.mk (Kd.R_elder' (raA HO_9.out) (Kd.R_base ho0) hb); have n1_ := Aside0.mk (Kd.R_elder' (raA HO_10.out) (Kd.R_base ho0) hb); have n2_ := Aside0.mk (Kd.R_lower (Kd.R_new' (Kd.R_new' ho0 (Kd.R_lt (raA HO_9.out))) (Kd.R_lt (raA HO_10.out))) (below_size (blA HB.out))); have n3_ := Aside0.mk (blk_below (bkA BK244.out) hb); have n4_ := Aside0.mk (blk_below (bkA BK245.out) hb); have n5_ := Aside0.mk (below_step (blA HB.out) hb); clear HO_9; clear HO_10; clear BK244; clear BK245; clear HB; have HO_9 := n0_; have HO_10 := n1_; have HO254 := n2_; have BK244 := n3_; have BK245 := n4_; have HB := n5_; clear n0_ n1_ n2_ n3_ n4_ n5_; (try clear hb); (try clear ho0); obtain ⟨Ao28, co28, eo28⟩ := Kd.R_slice HO254.out; subst eo28) | (go_at_call 83; (with_reducible refine (steepleref27_Number.calls kj6 _ _ t252 t255 _ ?side1 ?side2 A22.out).mono ?_); (case side1 => repeat (first | exact (Kd.R_reads' HO254.out).2.2 | (with_reducible refine Kd.C_alloc ?_ _) | (with_reducible refine Kd.C_drewN ?_ _) | (with_reducible refine Kd.C_drew ?_))); (case side2 => exact (Kd.R_reads' HO254.out).2.1); rintro e w' ⟨rfl, ⟨nd, rfl⟩⟩; (try first | exact ⟨rfl, _, World.drewN_drewN _ _ _⟩ | exact ⟨rfl, _, Eq.trans (World.drewN_drewN _ _ _) (congrArg (World.drewN _) (Nat.add_assoc _ _ _))⟩)) | ((with_reducible refine gate_dst (N := 42) rfl ?_); refine Kd.R_lit (Kd.int .u64) _ 43 ?hg (N := 42) ?hd (xs := ([t255, 0] : List Int)) (inner := [.int .u64 t255, .int .u64 0]) (ok := fun _ => True) (okp := fun _ => True) ?hr ?hp (fun _ hk => hk) trivial (Below.refl _ _) (Nat.le_refl _) (by simp) ?_; (case hd => rfl); (case hg => rfl); (case hr => first | (go_simp; done) | (go_simp; rfl)); (case hp => exact (Reps.one (show Kd.M (Kd.int .u64) _ _ _ t255 [.int .u64 t255] from rfl) (Reps.one (show Kd.M (Kd.int .u64) _ _ _ 0 [.int .u64 0] from rfl) (Reps.none _ _)))); intro v257 w29 ho30 hb hg_ hnew_; clear hg_ hnew_; (first | rw [← Ny256.out] at ho30 | (simp only [Int.reduceToNat] at ho30; rw [← Ny256.out] at ho30)); have n0_ := Aside0.mk (Kd.R_below (raA HO_9.out) hb); have n1_ := Aside0.mk (Kd.R_below (raA HO_10.out) hb); have n2_ := Aside0.mk (Kd.R_below (raA HO254.out) hb); have n3_ := Aside0.mk (Kd.R_lower ho30 (below_size (blA HB.out))); have n4_ := Aside0.mk (blk_below (bkA BK244.out) hb); have n5_ := Aside0.mk (blk_below (bkA BK245.out) hb); have n6_ := Aside0.mk (below_step (blA HB.out) hb); clear HO_9; clear HO_10; clear HO254; clear BK244; clear BK245; clear HB; have HO_9 := n0_; have HO_10 := n1_; have HO254 := n2_; have HO258 := n3_; have BK244 := n4_; have BK245 := n5_; have HB := n6_; clear n0_ n1_ n2_ n3_ n4_ n5_ n6_; clear hb ho30))
    repeat (go_quiet (fail); try go_wp2_with (first | (go_at_call 85; (with_reducible refine (steepleref18_Bits.calls kj6 (wrap64 (a1_0 - 3)) a0_0 a1_4 _ _ t246 t252 _ ?side1 ?side2 A21.out).mono ?_); (case side1 => repeat (first | exact (Kd.R_reads' HO_9.out).2.2 | (with_reducible refine Kd.C_alloc ?_ _) | (with_reducible refine Kd.C_drewN ?_ _) | (with_reducible refine Kd.C_drew ?_))); (case side2 => exact (Kd.R_reads' HO_9.out).2.1); rintro e w27 ⟨v253, rfl, ho0, hb⟩; have n0_ := Aside0.mk (Kd.R_elder' (raA HO_9.out) (Kd.R_base ho0) hb); have n1_ := Aside0.mk (Kd.R_elder' (raA HO_10.out) (Kd.R_base ho0) hb); have n2_ := Aside0.mk (Kd.R_lower (Kd.R_new' (Kd.R_new' ho0 (Kd.R_lt (raA HO_9.out))) (Kd.R_lt (raA HO_10.out))) (below_size (blA HB.out))); have n3_ := Aside0.mk (blk_below (bkA BK244.out) hb); have n4_ := Aside0.mk (blk_below (bkA BK245.out) hb); have n5_ := Aside0.mk (below_step (blA HB.out) hb); clear HO_9; clear HO_10; clear BK244; clear BK245; clear HB; have HO_9 := n0_; have HO_10 := n1_; have HO254 := n2_; have BK244 := n3_; have BK245 := n4_; have HB := n5_; clear n0_ n1_ n2_ n3_ n4_ n5_; (try clear hb); (try clear ho0); obtain ⟨Ao28, co28, eo28⟩ := Kd.R_slice HO254.out; subst eo28) | (go_at_call 83; (with_reducible refine (steepleref27_Number.calls kj6 _ _ t252 t255 _ ?side1 ?side2 A22.out).mono ?_); (case side1 => repeat (first | exact (Kd.R_reads' HO254.out).2.2 | (with_reducible refine Kd.C_alloc ?_ _) | (with_reducible refine Kd.C_drewN ?_ _) | (with_reducible refine Kd.C_drew ?_))); (case side2 => exact (Kd.R_reads' HO254.out).2.1); rintro e w' ⟨rfl, ⟨nd, rfl⟩⟩; (try first | exact ⟨rfl, _, World.drewN_drewN _ _ _⟩ | exact ⟨rfl, _, Eq.trans (World.drewN_drewN _ _ _) (congrArg (World.drewN _) (Nat.add_assoc _ _ _))⟩)) | ((with_reducible refine gate_dst (N := 42) rfl ?_); refine Kd.R_lit (Kd.int .u64) _ 43 ?hg (N := 42) ?hd (xs := ([t255, 0] : List Int)) (inner := [.int .u64 t255, .int .u64 0]) (ok := fun _ => True) (okp := fun _ => True) ?hr ?hp (fun _ hk => hk) trivial (Below.refl _ _) (Nat.le_refl _) (by simp) ?_; (case hd => rfl); (case hg => rfl); (case hr => first | (go_simp; done) | (go_simp; rfl)); (case hp => exact (Reps.one (show Kd.M (Kd.int .u64) _ _ _ t255 [.int .u64 t255] from rfl) (Reps.one (show Kd.M (Kd.int .u64) _ _ _ 0 [.int .u64 0] from rfl) (Reps.none _ _)))); intro v257 w29 ho30 hb hg_ hnew_; clear hg_ hnew_; (first | rw [← Ny256.out] at ho30 | (simp only [Int.reduceToNat] at ho30; rw [← Ny256.out] at ho30)); have n0_ := Aside0.mk (Kd.R_below (raA HO_9.out) hb); have n1_ := Aside0.mk (Kd.R_below (raA HO_10.out) hb); have n2_ := Aside0.mk (Kd.R_below (raA HO254.out) hb); have n3_ := Aside0.mk (Kd.R_lower ho30 (below_size (blA HB.out))); have n4_ := Aside0.mk (blk_below (bkA BK244.out) hb); have n5_ := Aside0.mk (blk_below (bkA BK245.out) hb); have n6_ := Aside0.mk (below_step (blA HB.out) hb); clear HO_9; clear HO_10; clear HO254; clear BK244; clear BK245; clear HB; have HO_9 := n0_; have HO_10 := n1_; have HO254 := n2_; have HO258 := n3_; have BK244 := n4_; have BK245 := n5_; have HB := n6_; clear n0_ n1_ n2_ n3_ n4_ n5_ n6_; clear hb ho30)))
    go_ret
    exact ⟨_, by first | rfl | (simp [errW_none, errW_some] <;> rfl) | (simp [*, errW_none, errW_some] <;> rfl), raA HO258.out, blA HB.out⟩
   ·replace c20 := Bool.eq_false_iff.mpr c20; subst c20
    have H1 : (steepleref27_Made.l0 kj6 t246 t249 ([] : List Bool) ([] : List Bool) false 0 a1_0 a1_1 a1_2 a1_3 a1_4) = some r := by rw [if_neg (show ¬ (false = true) by decide)] at H; exact H
    clear H; have H := H1; clear H1; have H' := Aside0.mk H; clear H
    go_wp2
    repeat (go_quiet (fail); try go_wp2)
    go_loopg [11, 12, 13, 14] kj6 (fun kq v11 v12 v13 v14 w' => ∃ (x11_2 : List Bool) (x12_2 : List Bool) (x13_2 : Bool) (x14_2 : Int), v13 = .bool x13_2 ∧ v14 = .int .i64 x14_2 ∧ Aside0 (steepleref27_Made.l0 kq t246 t249 x11_2 x12_2 x13_2 x14_2 a1_0 a1_1 a1_2 a1_3 a1_4 = some r) ∧ Aside0 (kq ≤ kj6) ∧ Aside0 (Kd.R Kd.bool 4 w' w.heap.size (fun k_ => some k_ ≠ (v250 : Value).ownBlock ∧ some k_ ≠ (v11 : Value).ownBlock ∧ some k_ ≠ (v12 : Value).ownBlock) v247 t246) ∧ Aside0 (Kd.R Kd.bool 4 w' w.heap.size (fun k_ => some k_ ≠ (v247 : Value).ownBlock ∧ some k_ ≠ (v11 : Value).ownBlock ∧ some k_ ≠ (v12 : Value).ownBlock) v250 t249) ∧ Aside0 (Kd.R Kd.bool 4 w' w.heap.size (fun k_ => some k_ ≠ (v247 : Value).ownBlock ∧ some k_ ≠ (v250 : Value).ownBlock ∧ some k_ ≠ (v12 : Value).ownBlock) v11 x11_2) ∧ Aside0 (Kd.R Kd.bool 4 w' w.heap.size (fun k_ => some k_ ≠ (v247 : Value).ownBlock ∧ some k_ ≠ (v250 : Value).ownBlock ∧ some k_ ≠ (v11 : Value).ownBlock) v12 x12_2) ∧ Aside0 (w'.heap[gb244]? = some (.cells #[.int .i64 a0_0, .int .i64 a0_1, .int .i64 a0_2, .int .i64 a0_3, .int .i64 a0_4, (.slice A0_5 l0_5.length c0_5)] 28 (0, 0))) ∧ Aside0 (w'.heap[gb245]? = some (.cells #[.int .i64 a1_0, .int .i64 a1_1, .int .i64 a1_2, .int .i64 a1_3, .int .i64 a1_4] 106 (0, 0))) ∧ Aside0 (Below w.heap.size w w'))
    case atStart => exact ⟨(([] : List Bool)), (([] : List Bool)), (false), (0), eqA, eqA, H', ⟨Nat.le_refl _⟩, ⟨by (with_reducible repeat (first | apply Kd.R_alloc | apply Kd.R_drewN | apply Kd.R_drew)); exact Kd.R_mono HO_9.out (fun _ hk => ⟨hk, ⟨(by simp [Value.ownBlock]), (by simp [Value.ownBlock])⟩⟩)⟩, ⟨by (with_reducible repeat (first | apply Kd.R_alloc | apply Kd.R_drewN | apply Kd.R_drew)); exact Kd.R_mono HO_10.out (fun _ hk => ⟨hk, ⟨(by simp [Value.ownBlock]), (by simp [Value.ownBlock])⟩⟩)⟩, ⟨by first | exact Kd.R_nil _ _ _ _ _ | exact Kd.N_nil _ _ _ _ _ | exact Kd.V_nil _ _ _ _ _ | exact Kd.Q_nil _ _ _ _ _ | exact Kd.S_nil _ _ _ _ _⟩, ⟨by first | exact Kd.R_nil _ _ _ _ _ | exact Kd.N_nil _ _ _ _ _ | exact Kd.V_nil _ _ _ _ _ | exact Kd.Q_nil _ _ _ _ _ | exact Kd.S_nil _ _ _ _ _⟩, ⟨bkA BK244.out⟩, ⟨bkA BK245.out⟩, ⟨blA HB.out⟩⟩
    case round =>
     clear H'; (try clear c1); (try clear c2); (try clear p2); (try clear c6); (try clear p6); (try clear c10); (try clear c15); (try clear c15b0); (try clear c16); (try clear c18); (try clear c20); (try clear c23); (try clear hcz11); (try clear hcz13); (try clear hcz17); (try clear hcz19); (try clear hcz24); (try clear hcz25); (try clear hfz11); (try clear hfz13); (try clear hfz17); (try clear hfz19); (try clear hfz24); (try clear hfz25); (try clear p2); obtain ⟨x11_2, x12_2, x13_2, x14_2, rfl, rfl, HA, HK2, HO_9, HO_10, HO_11, HO_12, BK244, BK245, HB⟩ := hrel
     cases gk with
     | zero => exact absurd HA.out (by simp [steepleref27_Made.l0])
     | succ k2 =>
      have H := HA.out; clear HA
      simp only [steepleref27_Made.l0] at H
      by_cases c31 : x14_2 < (t246.length : Int)
      ·rw [if_pos c31] at H
       have c31b0 : decide (x14_2 < (t246.length : Int)) = true := decide_eq_true c31; clear c31; have HC32 := Aside0.mk H; clear H; obtain ⟨Ao33, co33, eo33⟩ := Kd.R_slice HO_9.out; subst eo33; have hnb34 := NB245_244.out; have hnc34 := NB244_245.out
       have hcz35 := fun i => blk_cell BK245.out i
       have hfz35 := fun i => blk_frozen BK245.out i
       go_upto_if 51 with (fail)
       repeat (go_quiet (fail); go_upto_if 51 with (fail))
       go_cut [15] (fun v15 wc => ∃ (kq : Nat) (x15_31 : Bool), v15 = .bool x15_31 ∧ Aside0 (steepleref27_Made.j2 kq t246 t249 x11_2 x12_2 x13_2 x14_2 x15_31 a1_0 a1_1 a1_2 a1_3 a1_4 = some r) ∧ Aside0 (kq ≤ k2) ∧ Aside0 (Kd.R Kd.bool 4 wc w.heap.size (fun k_ => some k_ ≠ (v250 : Value).ownBlock ∧ some k_ ≠ (u11 : Value).ownBlock ∧ some k_ ≠ (u12 : Value).ownBlock) (.slice Ao33 t246.length co33) t246) ∧ Aside0 (Kd.R Kd.bool 4 wc w.heap.size (fun k_ => some k_ ≠ ((.slice Ao33 t246.length co33) : Value).ownBlock ∧ some k_ ≠ (u11 : Value).ownBlock ∧ some k_ ≠ (u12 : Value).ownBlock) v250 t249) ∧ Aside0 (Kd.R Kd.bool 4 wc w.heap.size (fun k_ => some k_ ≠ ((.slice Ao33 t246.length co33) : Value).ownBlock ∧ some k_ ≠ (v250 : Value).ownBlock ∧ some k_ ≠ (u12 : Value).ownBlock) u11 x11_2) ∧ Aside0 (Kd.R Kd.bool 4 wc w.heap.size (fun k_ => some k_ ≠ ((.slice Ao33 t246.length co33) : Value).ownBlock ∧ some k_ ≠ (v250 : Value).ownBlock ∧ some k_ ≠ (u11 : Value).ownBlock) u12 x12_2) ∧ Aside0 (wc.heap[gb244]? = some (.cells #[.int .i64 a0_0, .int .i64 a0_1, .int .i64 a0_2, .int .i64 a0_3, .int .i64 a0_4, (.slice A0_5 l0_5.length c0_5)] 28 (0, 0))) ∧ Aside0 (wc.heap[gb245]? = some (.cells #[.int .i64 a1_0, .int .i64 a1_1, .int .i64 a1_2, .int .i64 a1_3, .int .i64 a1_4] 106 (0, 0))) ∧ Aside0 (Below w.heap.size w wc))
       case first =>
        have H := HC32.out; clear HC32
        by_cases c36 : a1_0 = 1
        ·rw [if_pos c36] at H
         have c36b0 : (a1_0 == 1) = true := beq_iff_eq.mpr c36; have c36b1 : (a1_0 != 1) = false := bne_eq_false_iff_eq.mpr c36; clear c36
         (first | rw [c36b0] | (simp only [i64_w, i32_w]; rw [c36b0]) | skip)
         by_cases c37 : 0 ≤ x14_2
         ·rw [if_pos c37] at H
          have c37b0 : decide (0 ≤ x14_2) = true := decide_eq_true c37; clear c37
          by_cases c38 : x14_2 < (t249.length : Int)
          ·rw [if_pos c38] at H
           have c38b0 : decide (x14_2 < (t249.length : Int)) = true := decide_eq_true c38; clear c38; have H' := Aside0.mk H; clear H
           have p259 : 0 ≤ (x14_2 : Int) := of_decide_eq_true (by first | (with_reducible assumption) | assumption)
           have q259 : x14_2 < (t246.length : Int) := of_decide_eq_true (by first | (with_reducible assumption) | assumption)
           obtain ⟨ad259, e259, hx259_0⟩ := Kd.at_bool (Kd.R_reads' HO_9.out).2.2 x14_2 p259 q259
           cases e259
           replace p259 := eq_true p259; replace q259 := eq_true q259; obtain ⟨Ao39, co39, eo39⟩ := Kd.R_slice HO_10.out; subst eo39
           have p260 : 0 ≤ (x14_2 : Int) := of_decide_eq_true (by first | (with_reducible assumption) | assumption)
           have q260 : x14_2 < (t249.length : Int) := of_decide_eq_true (by first | (with_reducible assumption) | assumption)
           obtain ⟨ad260, e260, hx260_0⟩ := Kd.at_bool (Kd.R_reads' HO_10.out).2.2 x14_2 p260 q260
           cases e260
           replace p260 := eq_true p260; replace q260 := eq_true q260
           go_wp2
           repeat (go_quiet (fail); try go_wp2)
           go_meet
           case rel => exact ⟨_, (((rdOf false t246 x14_2) != (rdOf false t249 x14_2))), eqA, H', ⟨by have := HJ6.out; have := HK2.out; first | omega | exact Nat.le_refl _⟩, ⟨raA HO_9.out⟩, ⟨raA HO_10.out⟩, ⟨raA HO_11.out⟩, ⟨raA HO_12.out⟩, ⟨bkA BK244.out⟩, ⟨bkA BK245.out⟩, ⟨blA HB.out⟩⟩
          ·rw [if_neg c38] at H
           exact absurd H (by simp)
         ·rw [if_neg c37] at H
          exact absurd H (by simp)
        ·rw [if_neg c36] at H
         have c36b0 : (a1_0 == 1) = false := beq_eq_false_iff_ne.mpr c36; have c36b1 : (a1_0 != 1) = true := bne_iff_ne.mpr c36
         (first | rw [c36b0] | (simp only [i64_w, i32_w]; rw [c36b0]) | skip)
         have H' := Aside0.mk H; clear H
         go_wp2
         repeat (go_quiet (fail); try go_wp2)
         go_meet
         case rel => exact ⟨_, (false), eqA, H', ⟨by have := HJ6.out; have := HK2.out; first | omega | exact Nat.le_refl _⟩, ⟨raA HO_9.out⟩, ⟨raA HO_10.out⟩, ⟨raA HO_11.out⟩, ⟨raA HO_12.out⟩, ⟨bkA BK244.out⟩, ⟨bkA BK245.out⟩, ⟨blA HB.out⟩⟩
       case rest =>
        clear HC32; (try clear c1); (try clear c2); (try clear p2); (try clear q2); (try clear hx2); (try clear c3); (try clear c6); (try clear p6); (try clear c10); (try clear c15); (try clear c15b0); (try clear c16); (try clear c18); (try clear c20); (try clear c23); (try clear p25); (try clear q25); (try clear hx25); (try clear p26); (try clear q26); (try clear hx26); (try clear c31); (try clear c31b0); (try clear c34); (try clear c36); (try clear c36b0); (try clear c36b1); (try clear c37); (try clear c37b0); (try clear c38); (try clear c38b0); (try clear hcz11); (try clear hcz13); (try clear hcz17); (try clear hcz19); (try clear hcz24); (try clear hcz25); (try clear hcz35); (try clear hfz11); (try clear hfz13); (try clear hfz17); (try clear hfz19); (try clear hfz24); (try clear hfz25); (try clear hfz35); (try clear hx259_0); (try clear hx260_0); (try clear p2); (try clear p259); (try clear p260); (try clear p6); (try clear q259); (try clear q260); obtain ⟨kq, x15_31, rfl, HA, HJ31, HO_9, HO_10, HO_11, HO_12, BK244, BK245, HB⟩ := hcut
        cases kq with
        | zero => exact absurd HA.out (by simp [steepleref27_Made.j2])
        | succ kj31 =>
         have H := HA.out; clear HA
         simp only [steepleref27_Made.j2] at H
         have HC40 := Aside0.mk H; clear H; have hnb41 := NB245_244.out; have hnc41 := NB244_245.out
         have hcz42 := fun i => blk_cell BK245.out i
         have hfz42 := fun i => blk_frozen BK245.out i
         go_upto_if 63 with (fail)
         repeat (go_quiet (fail); go_upto_if 63 with (fail))
         go_cut [15] (fun v15 wc => ∃ (kq : Nat) (x15_39 : Bool), v15 = .bool x15_39 ∧ Aside0 (steepleref27_Made.j3 kq t246 t249 x11_2 x12_2 x13_2 x14_2 x15_39 a1_0 a1_1 a1_2 a1_3 a1_4 = some r) ∧ Aside0 (kq ≤ kj31) ∧ Aside0 (Kd.R Kd.bool 4 wc w.heap.size (fun k_ => some k_ ≠ (v250 : Value).ownBlock ∧ some k_ ≠ (u11 : Value).ownBlock ∧ some k_ ≠ (u12 : Value).ownBlock) (.slice Ao33 t246.length co33) t246) ∧ Aside0 (Kd.R Kd.bool 4 wc w.heap.size (fun k_ => some k_ ≠ ((.slice Ao33 t246.length co33) : Value).ownBlock ∧ some k_ ≠ (u11 : Value).ownBlock ∧ some k_ ≠ (u12 : Value).ownBlock) v250 t249) ∧ Aside0 (Kd.R Kd.bool 4 wc w.heap.size (fun k_ => some k_ ≠ ((.slice Ao33 t246.length co33) : Value).ownBlock ∧ some k_ ≠ (v250 : Value).ownBlock ∧ some k_ ≠ (u12 : Value).ownBlock) u11 x11_2) ∧ Aside0 (Kd.R Kd.bool 4 wc w.heap.size (fun k_ => some k_ ≠ ((.slice Ao33 t246.length co33) : Value).ownBlock ∧ some k_ ≠ (v250 : Value).ownBlock ∧ some k_ ≠ (u11 : Value).ownBlock) u12 x12_2) ∧ Aside0 (wc.heap[gb244]? = some (.cells #[.int .i64 a0_0, .int .i64 a0_1, .int .i64 a0_2, .int .i64 a0_3, .int .i64 a0_4, (.slice A0_5 l0_5.length c0_5)] 28 (0, 0))) ∧ Aside0 (wc.heap[gb245]? = some (.cells #[.int .i64 a1_0, .int .i64 a1_1, .int .i64 a1_2, .int .i64 a1_3, .int .i64 a1_4] 106 (0, 0))) ∧ Aside0 (Below w.heap.size w wc))
         case first =>
          have H := HC40.out; clear HC40
          by_cases c43 : a1_0 = 2
          ·rw [if_pos c43] at H
           have c43b0 : (a1_0 == 2) = true := beq_iff_eq.mpr c43; have c43b1 : (a1_0 != 2) = false := bne_eq_false_iff_eq.mpr c43; clear c43
           (first | rw [c43b0] | (simp only [i64_w, i32_w]; rw [c43b0]) | skip)
           by_cases c44 : 0 ≤ x14_2
           ·rw [if_pos c44] at H
            have c44b0 : decide (0 ≤ x14_2) = true := decide_eq_true c44; clear c44
            by_cases c45 : x14_2 < (t246.length : Int)
            ·rw [if_pos c45] at H
             have c45b0 : decide (x14_2 < (t246.length : Int)) = true := decide_eq_true c45; clear c45
             obtain ⟨bq46, hbq46⟩ : ∃ b_ : Bool, b_ = (rdOf false t246 x14_2) := ⟨_, rfl⟩
             replace H : (if bq46 = true then (if x14_2 < (t249.length : Int) then (steepleref27_Made.j3 kj31 t246 t249 x11_2 x12_2 x13_2 x14_2 (rdOf false t249 x14_2) a1_0 a1_1 a1_2 a1_3 a1_4) else (none)) else (steepleref27_Made.j3 kj31 t246 t249 x11_2 x12_2 x13_2 x14_2 false a1_0 a1_1 a1_2 a1_3 a1_4)) = some r := by rw [← hbq46] at H; exact H
             have Nbq46 := Aside0.mk hbq46; clear hbq46
             by_cases c47 : bq46 = true
             ·subst c47
              have H1 : (if x14_2 < (t249.length : Int) then (steepleref27_Made.j3 kj31 t246 t249 x11_2 x12_2 x13_2 x14_2 (rdOf false t249 x14_2) a1_0 a1_1 a1_2 a1_3 a1_4) else (none)) = some r := by rw [if_pos rfl] at H; exact H
              clear H; have H := H1; clear H1
              by_cases c48 : x14_2 < (t249.length : Int)
              ·rw [if_pos c48] at H
               have c48b0 : decide (x14_2 < (t249.length : Int)) = true := decide_eq_true c48; clear c48; have H' := Aside0.mk H; clear H
               have p261 : 0 ≤ (x14_2 : Int) := of_decide_eq_true (by first | (with_reducible assumption) | assumption)
               have q261 : x14_2 < (t246.length : Int) := of_decide_eq_true (by first | (with_reducible assumption) | assumption)
               obtain ⟨ad261, e261, hx261_0⟩ := Kd.at_bool (Kd.R_reads' HO_9.out).2.2 x14_2 p261 q261
               (try rw [← Nbq46.out] at hx261_0)
               cases e261
               replace p261 := eq_true p261; replace q261 := eq_true q261; obtain ⟨Ao49, co49, eo49⟩ := Kd.R_slice HO_10.out; subst eo49
               have p262 : 0 ≤ (x14_2 : Int) := of_decide_eq_true (by first | (with_reducible assumption) | assumption)
               have q262 : x14_2 < (t249.length : Int) := of_decide_eq_true (by first | (with_reducible assumption) | assumption)
               obtain ⟨ad262, e262, hx262_0⟩ := Kd.at_bool (Kd.R_reads' HO_10.out).2.2 x14_2 p262 q262
               (try rw [← Nbq46.out] at hx262_0)
               cases e262
               replace p262 := eq_true p262; replace q262 := eq_true q262
               go_wp2
               repeat (go_quiet (fail); try go_wp2)
               go_meet
               case rel => exact ⟨_, (rdOf false t249 x14_2), eqA, H', ⟨by have := HJ6.out; have := HK2.out; have := HJ31.out; first | omega | exact Nat.le_refl _⟩, ⟨raA HO_9.out⟩, ⟨raA HO_10.out⟩, ⟨raA HO_11.out⟩, ⟨raA HO_12.out⟩, ⟨bkA BK244.out⟩, ⟨bkA BK245.out⟩, ⟨blA HB.out⟩⟩
              ·rw [if_neg c48] at H
               exact absurd H (by simp)
             ·replace c47 := Bool.eq_false_iff.mpr c47; subst c47
              have H1 : (steepleref27_Made.j3 kj31 t246 t249 x11_2 x12_2 x13_2 x14_2 false a1_0 a1_1 a1_2 a1_3 a1_4) = some r := by rw [if_neg (show ¬ (false = true) by decide)] at H; exact H
              clear H; have H := H1; clear H1; have H' := Aside0.mk H; clear H
              have p261 : 0 ≤ (x14_2 : Int) := of_decide_eq_true (by first | (with_reducible assumption) | assumption)
              have q261 : x14_2 < (t246.length : Int) := of_decide_eq_true (by first | (with_reducible assumption) | assumption)
              obtain ⟨ad261, e261, hx261_0⟩ := Kd.at_bool (Kd.R_reads' HO_9.out).2.2 x14_2 p261 q261
              (try rw [← Nbq46.out] at hx261_0)
              cases e261
              replace p261 := eq_true p261; replace q261 := eq_true q261
              go_wp2
              repeat (go_quiet (fail); try go_wp2)
              go_meet
              case rel => exact ⟨_, (false), eqA, H', ⟨by have := HJ6.out; have := HK2.out; have := HJ31.out; first | omega | exact Nat.le_refl _⟩, ⟨raA HO_9.out⟩, ⟨raA HO_10.out⟩, ⟨raA HO_11.out⟩, ⟨raA HO_12.out⟩, ⟨bkA BK244.out⟩, ⟨bkA BK245.out⟩, ⟨blA HB.out⟩⟩
            ·rw [if_neg c45] at H
             exact absurd H (by simp)
           ·rw [if_neg c44] at H
            exact absurd H (by simp)
          ·rw [if_neg c43] at H
           have c43b0 : (a1_0 == 2) = false := beq_eq_false_iff_ne.mpr c43; have c43b1 : (a1_0 != 2) = true := bne_iff_ne.mpr c43
           (first | rw [c43b0] | (simp only [i64_w, i32_w]; rw [c43b0]) | skip)
           have H' := Aside0.mk H; clear H
           go_wp2
           repeat (go_quiet (fail); try go_wp2)
           go_meet
           case rel => exact ⟨_, (x15_31), eqA, H', ⟨by have := HJ6.out; have := HK2.out; have := HJ31.out; first | omega | exact Nat.le_refl _⟩, ⟨raA HO_9.out⟩, ⟨raA HO_10.out⟩, ⟨raA HO_11.out⟩, ⟨raA HO_12.out⟩, ⟨bkA BK244.out⟩, ⟨bkA BK245.out⟩, ⟨blA HB.out⟩⟩
         case rest =>
          clear HC40; (try clear c1); (try clear c2); (try clear p2); (try clear q2); (try clear hx2); (try clear c3); (try clear c4); (try clear q4); (try clear c6); (try clear p6); (try clear c10); (try clear c15); (try clear c15b0); (try clear c16); (try clear c18); (try clear c20); (try clear c23); (try clear p25); (try clear q25); (try clear hx25); (try clear p26); (try clear q26); (try clear hx26); (try clear c31); (try clear c31b0); (try clear c34); (try clear c36); (try clear c36b0); (try clear c36b1); (try clear c37); (try clear c37b0); (try clear c38); (try clear c38b0); (try clear c41); (try clear c43); (try clear c43b0); (try clear c43b1); (try clear c44); (try clear c44b0); (try clear c45); (try clear c45b0); (try clear q46); (try clear c47); (try clear c48); (try clear c48b0); (try clear hcz11); (try clear hcz13); (try clear hcz17); (try clear hcz19); (try clear hcz24); (try clear hcz25); (try clear hcz35); (try clear hcz42); (try clear hfz11); (try clear hfz13); (try clear hfz17); (try clear hfz19); (try clear hfz24); (try clear hfz25); (try clear hfz35); (try clear hfz42); (try clear hx259_0); (try clear hx260_0); (try clear hx261_0); (try clear hx262_0); (try clear p2); (try clear p25); (try clear p259); (try clear p26); (try clear p260); (try clear p261); (try clear p262); (try clear p6); (try clear q2); (try clear q25); (try clear q259); (try clear q26); (try clear q260); (try clear q261); (try clear q262); obtain ⟨kq, x15_39, rfl, HA, HJ39, HO_9, HO_10, HO_11, HO_12, BK244, BK245, HB⟩ := hcut
          cases kq with
          | zero => exact absurd HA.out (by simp [steepleref27_Made.j3])
          | succ kj39 =>
           have H := HA.out; clear HA
           simp only [steepleref27_Made.j3] at H
           have HC50 := Aside0.mk H; clear H; have hnb51 := NB245_244.out; have hnc51 := NB244_245.out
           have hcz52 := fun i => blk_cell BK245.out i
           have hfz52 := fun i => blk_frozen BK245.out i
           go_upto_if 76 with (fail)
           repeat (go_quiet (fail); go_upto_if 76 with (fail))
           go_cut [15] (fun v15 wc => ∃ (kq : Nat) (x15_49 : Bool), v15 = .bool x15_49 ∧ Aside0 (steepleref27_Made.j4 kq t246 t249 x11_2 x12_2 x13_2 x14_2 x15_49 a1_0 a1_1 a1_2 a1_3 a1_4 = some r) ∧ Aside0 (kq ≤ kj39) ∧ Aside0 (Kd.R Kd.bool 4 wc w.heap.size (fun k_ => some k_ ≠ (v250 : Value).ownBlock ∧ some k_ ≠ (u11 : Value).ownBlock ∧ some k_ ≠ (u12 : Value).ownBlock) (.slice Ao33 t246.length co33) t246) ∧ Aside0 (Kd.R Kd.bool 4 wc w.heap.size (fun k_ => some k_ ≠ ((.slice Ao33 t246.length co33) : Value).ownBlock ∧ some k_ ≠ (u11 : Value).ownBlock ∧ some k_ ≠ (u12 : Value).ownBlock) v250 t249) ∧ Aside0 (Kd.R Kd.bool 4 wc w.heap.size (fun k_ => some k_ ≠ ((.slice Ao33 t246.length co33) : Value).ownBlock ∧ some k_ ≠ (v250 : Value).ownBlock ∧ some k_ ≠ (u12 : Value).ownBlock) u11 x11_2) ∧ Aside0 (Kd.R Kd.bool 4 wc w.heap.size (fun k_ => some k_ ≠ ((.slice Ao33 t246.length co33) : Value).ownBlock ∧ some k_ ≠ (v250 : Value).ownBlock ∧ some k_ ≠ (u11 : Value).ownBlock) u12 x12_2) ∧ Aside0 (wc.heap[gb244]? = some (.cells #[.int .i64 a0_0, .int .i64 a0_1, .int .i64 a0_2, .int .i64 a0_3, .int .i64 a0_4, (.slice A0_5 l0_5.length c0_5)] 28 (0, 0))) ∧ Aside0 (wc.heap[gb245]? = some (.cells #[.int .i64 a1_0, .int .i64 a1_1, .int .i64 a1_2, .int .i64 a1_3, .int .i64 a1_4] 106 (0, 0))) ∧ Aside0 (Below w.heap.size w wc))
           case first =>
            have H := HC50.out; clear HC50
            by_cases c53 : a1_0 = 3
            ·rw [if_pos c53] at H
             have c53b0 : (a1_0 == 3) = true := beq_iff_eq.mpr c53; have c53b1 : (a1_0 != 3) = false := bne_eq_false_iff_eq.mpr c53; clear c53
             (first | rw [c53b0] | (simp only [i64_w, i32_w]; rw [c53b0]) | skip)
             by_cases c54 : 0 ≤ x14_2
             ·rw [if_pos c54] at H
              have c54b0 : decide (0 ≤ x14_2) = true := decide_eq_true c54; clear c54
              by_cases c55 : x14_2 < (t246.length : Int)
              ·rw [if_pos c55] at H
               have c55b0 : decide (x14_2 < (t246.length : Int)) = true := decide_eq_true c55; clear c55; have H' := Aside0.mk H; clear H
               have p263 : 0 ≤ (x14_2 : Int) := of_decide_eq_true (by first | (with_reducible assumption) | assumption)
               have q263 : x14_2 < (t246.length : Int) := of_decide_eq_true (by first | (with_reducible assumption) | assumption)
               obtain ⟨ad263, e263, hx263_0⟩ := Kd.at_bool (Kd.R_reads' HO_9.out).2.2 x14_2 p263 q263
               cases e263
               replace p263 := eq_true p263; replace q263 := eq_true q263
               go_wp2
               repeat (go_quiet (fail); try go_wp2)
               go_meet
               case rel => exact ⟨_, (!(rdOf false t246 x14_2)), eqA, H', ⟨by have := HJ6.out; have := HK2.out; have := HJ31.out; have := HJ39.out; first | omega | exact Nat.le_refl _⟩, ⟨raA HO_9.out⟩, ⟨raA HO_10.out⟩, ⟨raA HO_11.out⟩, ⟨raA HO_12.out⟩, ⟨bkA BK244.out⟩, ⟨bkA BK245.out⟩, ⟨blA HB.out⟩⟩
              ·rw [if_neg c55] at H
               exact absurd H (by simp)
             ·rw [if_neg c54] at H
              exact absurd H (by simp)
            ·rw [if_neg c53] at H
             have c53b0 : (a1_0 == 3) = false := beq_eq_false_iff_ne.mpr c53; have c53b1 : (a1_0 != 3) = true := bne_iff_ne.mpr c53
             (first | rw [c53b0] | (simp only [i64_w, i32_w]; rw [c53b0]) | skip)
             have H' := Aside0.mk H; clear H
             go_wp2
             repeat (go_quiet (fail); try go_wp2)
             go_meet
             case rel => exact ⟨_, (x15_39), eqA, H', ⟨by have := HJ6.out; have := HK2.out; have := HJ31.out; have := HJ39.out; first | omega | exact Nat.le_refl _⟩, ⟨raA HO_9.out⟩, ⟨raA HO_10.out⟩, ⟨raA HO_11.out⟩, ⟨raA HO_12.out⟩, ⟨bkA BK244.out⟩, ⟨bkA BK245.out⟩, ⟨blA HB.out⟩⟩
           case rest =>
            clear HC50; (try clear c1); (try clear c2); (try clear p2); (try clear q2); (try clear hx2); (try clear c3); (try clear c4); (try clear q4); (try clear c5); (try clear c6); (try clear p6); (try clear c10); (try clear c15); (try clear c15b0); (try clear c16); (try clear c18); (try clear c20); (try clear c23); (try clear p25); (try clear q25); (try clear hx25); (try clear p26); (try clear q26); (try clear hx26); (try clear c31); (try clear c31b0); (try clear c34); (try clear c36); (try clear c36b0); (try clear c36b1); (try clear c37); (try clear c37b0); (try clear c38); (try clear c38b0); (try clear c41); (try clear c43); (try clear c43b0); (try clear c43b1); (try clear c44); (try clear c44b0); (try clear c45); (try clear c45b0); (try clear q46); (try clear c47); (try clear c48); (try clear c48b0); (try clear c51); (try clear c53); (try clear c53b0); (try clear c53b1); (try clear c54); (try clear c54b0); (try clear c55); (try clear c55b0); (try clear hcz11); (try clear hcz13); (try clear hcz17); (try clear hcz19); (try clear hcz24); (try clear hcz25); (try clear hcz35); (try clear hcz42); (try clear hcz52); (try clear hfz11); (try clear hfz13); (try clear hfz17); (try clear hfz19); (try clear hfz24); (try clear hfz25); (try clear hfz35); (try clear hfz42); (try clear hfz52); (try clear hx259_0); (try clear hx260_0); (try clear hx261_0); (try clear hx262_0); (try clear hx263_0); (try clear p2); (try clear p25); (try clear p259); (try clear p26); (try clear p260); (try clear p261); (try clear p262); (try clear p263); (try clear p6); (try clear q2); (try clear q25); (try clear q259); (try clear q26); (try clear q260); (try clear q261); (try clear q262); (try clear q263); (try clear q4); (try clear q46); obtain ⟨kq, x15_49, rfl, HA, HJ49, HO_9, HO_10, HO_11, HO_12, BK244, BK245, HB⟩ := hcut
            cases kq with
            | zero => exact absurd HA.out (by simp [steepleref27_Made.j4])
            | succ kj49 =>
             have H := HA.out; clear HA
             simp only [steepleref27_Made.j4] at H
             have HC56 := Aside0.mk H; clear H; have hnb57 := NB245_244.out; have hnc57 := NB244_245.out
             have hcz58 := fun i => blk_cell BK245.out i
             have hfz58 := fun i => blk_frozen BK245.out i
             go_upto_if 84 with (fail)
             repeat (go_quiet (fail); go_upto_if 84 with (fail))
             go_cut [13, 15] (fun v13 v15 wc => ∃ (kq : Nat) (x13_55 : Bool) (x15_55 : Bool), v13 = .bool x13_55 ∧ v15 = .bool x15_55 ∧ Aside0 (steepleref27_Made.j5 kq t246 t249 x11_2 x12_2 x13_55 x14_2 x15_55 a1_0 a1_1 a1_2 a1_3 a1_4 = some r) ∧ Aside0 (kq ≤ kj49) ∧ Aside0 (Kd.R Kd.bool 4 wc w.heap.size (fun k_ => some k_ ≠ (v250 : Value).ownBlock ∧ some k_ ≠ (u11 : Value).ownBlock ∧ some k_ ≠ (u12 : Value).ownBlock) (.slice Ao33 t246.length co33) t246) ∧ Aside0 (Kd.R Kd.bool 4 wc w.heap.size (fun k_ => some k_ ≠ ((.slice Ao33 t246.length co33) : Value).ownBlock ∧ some k_ ≠ (u11 : Value).ownBlock ∧ some k_ ≠ (u12 : Value).ownBlock) v250 t249) ∧ Aside0 (Kd.R Kd.bool 4 wc w.heap.size (fun k_ => some k_ ≠ ((.slice Ao33 t246.length co33) : Value).ownBlock ∧ some k_ ≠ (v250 : Value).ownBlock ∧ some k_ ≠ (u12 : Value).ownBlock) u11 x11_2) ∧ Aside0 (Kd.R Kd.bool 4 wc w.heap.size (fun k_ => some k_ ≠ ((.slice Ao33 t246.length co33) : Value).ownBlock ∧ some k_ ≠ (v250 : Value).ownBlock ∧ some k_ ≠ (u11 : Value).ownBlock) u12 x12_2) ∧ Aside0 (wc.heap[gb244]? = some (.cells #[.int .i64 a0_0, .int .i64 a0_1, .int .i64 a0_2, .int .i64 a0_3, .int .i64 a0_4, (.slice A0_5 l0_5.length c0_5)] 28 (0, 0))) ∧ Aside0 (wc.heap[gb245]? = some (.cells #[.int .i64 a1_0, .int .i64 a1_1, .int .i64 a1_2, .int .i64 a1_3, .int .i64 a1_4] 106 (0, 0))) ∧ Aside0 (Below w.heap.size w wc))
             case first =>
              have H := HC56.out; clear HC56
              by_cases c59 : a1_0 = 7
              ·rw [if_pos c59] at H
               have c59b0 : (a1_0 == 7) = true := beq_iff_eq.mpr c59; have c59b1 : (a1_0 != 7) = false := bne_eq_false_iff_eq.mpr c59; clear c59
               (first | rw [c59b0] | (simp only [i64_w, i32_w]; rw [c59b0]) | skip)
               by_cases c60 : 0 ≤ x14_2
               ·rw [if_pos c60] at H
                have c60b0 : decide (0 ≤ x14_2) = true := decide_eq_true c60; clear c60
                by_cases c61 : x14_2 < (t246.length : Int)
                ·rw [if_pos c61] at H
                 have c61b0 : decide (x14_2 < (t246.length : Int)) = true := decide_eq_true c61; clear c61
                 by_cases c62 : x14_2 < (t249.length : Int)
                 ·rw [if_pos c62] at H
                  have c62b0 : decide (x14_2 < (t249.length : Int)) = true := decide_eq_true c62; clear c62
                  obtain ⟨bq63, hbq63⟩ : ∃ b_ : Bool, b_ = (rdOf false t246 x14_2) := ⟨_, rfl⟩
                  replace H : (if bq63 = true then (if rdOf false t249 x14_2 = true then (steepleref27_Made.j5 kj49 t246 t249 x11_2 x12_2 true x14_2 (((bq63) != (rdOf false t249 x14_2)) != x13_2) a1_0 a1_1 a1_2 a1_3 a1_4) else (if x13_2 = true then (steepleref27_Made.j5 kj49 t246 t249 x11_2 x12_2 true x14_2 (((bq63) != (rdOf false t249 x14_2)) != x13_2) a1_0 a1_1 a1_2 a1_3 a1_4) else (steepleref27_Made.j5 kj49 t246 t249 x11_2 x12_2 false x14_2 (((bq63) != (rdOf false t249 x14_2)) != x13_2) a1_0 a1_1 a1_2 a1_3 a1_4))) else (if x13_2 = true then (steepleref27_Made.j5 kj49 t246 t249 x11_2 x12_2 (rdOf false t249 x14_2) x14_2 (((bq63) != (rdOf false t249 x14_2)) != x13_2) a1_0 a1_1 a1_2 a1_3 a1_4) else (steepleref27_Made.j5 kj49 t246 t249 x11_2 x12_2 false x14_2 (((bq63) != (rdOf false t249 x14_2)) != x13_2) a1_0 a1_1 a1_2 a1_3 a1_4))) = some r := by rw [← hbq63] at H; exact H
                  have Nbq63 := Aside0.mk hbq63; clear hbq63
                  by_cases c64 : bq63 = true
                  ·subst c64
                   have H1 : (if rdOf false t249 x14_2 = true then (steepleref27_Made.j5 kj49 t246 t249 x11_2 x12_2 true x14_2 (((true) != (rdOf false t249 x14_2)) != x13_2) a1_0 a1_1 a1_2 a1_3 a1_4) else (if x13_2 = true then (steepleref27_Made.j5 kj49 t246 t249 x11_2 x12_2 true x14_2 (((true) != (rdOf false t249 x14_2)) != x13_2) a1_0 a1_1 a1_2 a1_3 a1_4) else (steepleref27_Made.j5 kj49 t246 t249 x11_2 x12_2 false x14_2 (((true) != (rdOf false t249 x14_2)) != x13_2) a1_0 a1_1 a1_2 a1_3 a1_4))) = some r := by rw [if_pos rfl] at H; exact H
                   clear H; have H := H1; clear H1
                   obtain ⟨bq65, hbq65⟩ : ∃ b_ : Bool, b_ = (rdOf false t249 x14_2) := ⟨_, rfl⟩
                   replace H : (if bq65 = true then (steepleref27_Made.j5 kj49 t246 t249 x11_2 x12_2 true x14_2 (((true) != (bq65)) != x13_2) a1_0 a1_1 a1_2 a1_3 a1_4) else (if x13_2 = true then (steepleref27_Made.j5 kj49 t246 t249 x11_2 x12_2 true x14_2 (((true) != (bq65)) != x13_2) a1_0 a1_1 a1_2 a1_3 a1_4) else (steepleref27_Made.j5 kj49 t246 t249 x11_2 x12_2 false x14_2 (((true) != (bq65)) != x13_2) a1_0 a1_1 a1_2 a1_3 a1_4))) = some r := by rw [← hbq65] at H; exact H
                   have Nbq65 := Aside0.mk hbq65; clear hbq65
                   by_cases c66 : bq65 = true
                   ·subst c66
                    have H1 : (steepleref27_Made.j5 kj49 t246 t249 x11_2 x12_2 true x14_2 (((true) != (true)) != x13_2) a1_0 a1_1 a1_2 a1_3 a1_4) = some r := by rw [if_pos rfl] at H; exact H
                    clear H; have H := H1; clear H1; have H' := Aside0.mk H; clear H
                    have p264 : 0 ≤ (x14_2 : Int) := of_decide_eq_true (by first | (with_reducible assumption) | assumption)
                    have q264 : x14_2 < (t246.length : Int) := of_decide_eq_true (by first | (with_reducible assumption) | assumption)
                    obtain ⟨ad264, e264, hx264_0⟩ := Kd.at_bool (Kd.R_reads' HO_9.out).2.2 x14_2 p264 q264
                    (try rw [← Nbq63.out] at hx264_0)
                    (try rw [← Nbq65.out] at hx264_0)
                    cases e264
                    replace p264 := eq_true p264; replace q264 := eq_true q264; obtain ⟨Ao67, co67, eo67⟩ := Kd.R_slice HO_10.out; subst eo67
                    have p265 : 0 ≤ (x14_2 : Int) := of_decide_eq_true (by first | (with_reducible assumption) | assumption)
                    have q265 : x14_2 < (t249.length : Int) := of_decide_eq_true (by first | (with_reducible assumption) | assumption)
                    obtain ⟨ad265, e265, hx265_0⟩ := Kd.at_bool (Kd.R_reads' HO_10.out).2.2 x14_2 p265 q265
                    (try rw [← Nbq63.out] at hx265_0)
                    (try rw [← Nbq65.out] at hx265_0)
                    cases e265
                    replace p265 := eq_true p265; replace q265 := eq_true q265
                    have p266 : 0 ≤ (x14_2 : Int) := of_decide_eq_true (by first | (with_reducible assumption) | assumption)
                    have q266 : x14_2 < (t246.length : Int) := of_decide_eq_true (by first | (with_reducible assumption) | assumption)
                    obtain ⟨ad266, e266, hx266_0⟩ := Kd.at_bool (Kd.R_reads' HO_9.out).2.2 x14_2 p266 q266
                    (try rw [← Nbq63.out] at hx266_0)
                    (try rw [← Nbq65.out] at hx266_0)
                    obtain rfl : ad264 = ad266 := (by injection e266)
                    replace p266 := eq_true p266; replace q266 := eq_true q266
                    have p267 : 0 ≤ (x14_2 : Int) := of_decide_eq_true (by first | (with_reducible assumption) | assumption)
                    have q267 : x14_2 < (t249.length : Int) := of_decide_eq_true (by first | (with_reducible assumption) | assumption)
                    obtain ⟨ad267, e267, hx267_0⟩ := Kd.at_bool (Kd.R_reads' HO_10.out).2.2 x14_2 p267 q267
                    (try rw [← Nbq63.out] at hx267_0)
                    (try rw [← Nbq65.out] at hx267_0)
                    obtain rfl : ad265 = ad267 := (by injection e267)
                    replace p267 := eq_true p267; replace q267 := eq_true q267
                    go_wp2
                    repeat (go_quiet (fail); try go_wp2)
                    go_meet
                    case rel => exact ⟨_, (true), ((((true) != (true)) != x13_2)), eqA, eqA, H', ⟨by have := HJ6.out; have := HK2.out; have := HJ31.out; have := HJ39.out; have := HJ49.out; first | omega | exact Nat.le_refl _⟩, ⟨raA HO_9.out⟩, ⟨raA HO_10.out⟩, ⟨raA HO_11.out⟩, ⟨raA HO_12.out⟩, ⟨bkA BK244.out⟩, ⟨bkA BK245.out⟩, ⟨blA HB.out⟩⟩
                   ·replace c66 := Bool.eq_false_iff.mpr c66; subst c66
                    have H1 : (if x13_2 = true then (steepleref27_Made.j5 kj49 t246 t249 x11_2 x12_2 true x14_2 (((true) != (false)) != x13_2) a1_0 a1_1 a1_2 a1_3 a1_4) else (steepleref27_Made.j5 kj49 t246 t249 x11_2 x12_2 false x14_2 (((true) != (false)) != x13_2) a1_0 a1_1 a1_2 a1_3 a1_4)) = some r := by rw [if_neg (show ¬ (false = true) by decide)] at H; exact H
                    clear H; have H := H1; clear H1
                    by_cases c68 : x13_2 = true
                    ·subst c68
                     have H1 : (steepleref27_Made.j5 kj49 t246 t249 x11_2 x12_2 true x14_2 (((true) != (false)) != true) a1_0 a1_1 a1_2 a1_3 a1_4) = some r := by rw [if_pos rfl] at H; exact H
                     clear H; have H := H1; clear H1; have H' := Aside0.mk H; clear H
                     have p264 : 0 ≤ (x14_2 : Int) := of_decide_eq_true (by first | (with_reducible assumption) | assumption)
                     have q264 : x14_2 < (t246.length : Int) := of_decide_eq_true (by first | (with_reducible assumption) | assumption)
                     obtain ⟨ad264, e264, hx264_0⟩ := Kd.at_bool (Kd.R_reads' HO_9.out).2.2 x14_2 p264 q264
                     (try rw [← Nbq63.out] at hx264_0)
                     (try rw [← Nbq65.out] at hx264_0)
                     cases e264
                     replace p264 := eq_true p264; replace q264 := eq_true q264; obtain ⟨Ao69, co69, eo69⟩ := Kd.R_slice HO_10.out; subst eo69
                     have p265 : 0 ≤ (x14_2 : Int) := of_decide_eq_true (by first | (with_reducible assumption) | assumption)
                     have q265 : x14_2 < (t249.length : Int) := of_decide_eq_true (by first | (with_reducible assumption) | assumption)
                     obtain ⟨ad265, e265, hx265_0⟩ := Kd.at_bool (Kd.R_reads' HO_10.out).2.2 x14_2 p265 q265
                     (try rw [← Nbq63.out] at hx265_0)
                     (try rw [← Nbq65.out] at hx265_0)
                     cases e265
                     replace p265 := eq_true p265; replace q265 := eq_true q265
                     have p266 : 0 ≤ (x14_2 : Int) := of_decide_eq_true (by first | (with_reducible assumption) | assumption)
                     have q266 : x14_2 < (t246.length : Int) := of_decide_eq_true (by first | (with_reducible assumption) | assumption)
                     obtain ⟨ad266, e266, hx266_0⟩ := Kd.at_bool (Kd.R_reads' HO_9.out).2.2 x14_2 p266 q266
                     (try rw [← Nbq63.out] at hx266_0)
                     (try rw [← Nbq65.out] at hx266_0)
                     obtain rfl : ad264 = ad266 := (by injection e266)
                     replace p266 := eq_true p266; replace q266 := eq_true q266
                     have p267 : 0 ≤ (x14_2 : Int) := of_decide_eq_true (by first | (with_reducible assumption) | assumption)
                     have q267 : x14_2 < (t249.length : Int) := of_decide_eq_true (by first | (with_reducible assumption) | assumption)
                     obtain ⟨ad267, e267, hx267_0⟩ := Kd.at_bool (Kd.R_reads' HO_10.out).2.2 x14_2 p267 q267
                     (try rw [← Nbq63.out] at hx267_0)
                     (try rw [← Nbq65.out] at hx267_0)
                     obtain rfl : ad265 = ad267 := (by injection e267)
                     replace p267 := eq_true p267; replace q267 := eq_true q267
                     have p268 : 0 ≤ (x14_2 : Int) := of_decide_eq_true (by first | (with_reducible assumption) | assumption)
                     have q268 : x14_2 < (t246.length : Int) := of_decide_eq_true (by first | (with_reducible assumption) | assumption)
                     obtain ⟨ad268, e268, hx268_0⟩ := Kd.at_bool (Kd.R_reads' HO_9.out).2.2 x14_2 p268 q268
                     (try rw [← Nbq63.out] at hx268_0)
                     (try rw [← Nbq65.out] at hx268_0)
                     obtain rfl : ad264 = ad268 := (by injection e268)
                     replace p268 := eq_true p268; replace q268 := eq_true q268
                     go_wp2
                     repeat (go_quiet (fail); try go_wp2)
                     go_meet
                     case rel => exact ⟨_, (true), ((((true) != (false)) != true)), eqA, eqA, H', ⟨by have := HJ6.out; have := HK2.out; have := HJ31.out; have := HJ39.out; have := HJ49.out; first | omega | exact Nat.le_refl _⟩, ⟨raA HO_9.out⟩, ⟨raA HO_10.out⟩, ⟨raA HO_11.out⟩, ⟨raA HO_12.out⟩, ⟨bkA BK244.out⟩, ⟨bkA BK245.out⟩, ⟨blA HB.out⟩⟩
                    ·replace c68 := Bool.eq_false_iff.mpr c68; subst c68
                     have H1 : (steepleref27_Made.j5 kj49 t246 t249 x11_2 x12_2 false x14_2 (((true) != (false)) != false) a1_0 a1_1 a1_2 a1_3 a1_4) = some r := by rw [if_neg (show ¬ (false = true) by decide)] at H; exact H
                     clear H; have H := H1; clear H1; have H' := Aside0.mk H; clear H
                     have p264 : 0 ≤ (x14_2 : Int) := of_decide_eq_true (by first | (with_reducible assumption) | assumption)
                     have q264 : x14_2 < (t246.length : Int) := of_decide_eq_true (by first | (with_reducible assumption) | assumption)
                     obtain ⟨ad264, e264, hx264_0⟩ := Kd.at_bool (Kd.R_reads' HO_9.out).2.2 x14_2 p264 q264
                     (try rw [← Nbq63.out] at hx264_0)
                     (try rw [← Nbq65.out] at hx264_0)
                     cases e264
                     replace p264 := eq_true p264; replace q264 := eq_true q264; obtain ⟨Ao70, co70, eo70⟩ := Kd.R_slice HO_10.out; subst eo70
                     have p265 : 0 ≤ (x14_2 : Int) := of_decide_eq_true (by first | (with_reducible assumption) | assumption)
                     have q265 : x14_2 < (t249.length : Int) := of_decide_eq_true (by first | (with_reducible assumption) | assumption)
                     obtain ⟨ad265, e265, hx265_0⟩ := Kd.at_bool (Kd.R_reads' HO_10.out).2.2 x14_2 p265 q265
                     (try rw [← Nbq63.out] at hx265_0)
                     (try rw [← Nbq65.out] at hx265_0)
                     cases e265
                     replace p265 := eq_true p265; replace q265 := eq_true q265
                     have p266 : 0 ≤ (x14_2 : Int) := of_decide_eq_true (by first | (with_reducible assumption) | assumption)
                     have q266 : x14_2 < (t246.length : Int) := of_decide_eq_true (by first | (with_reducible assumption) | assumption)
                     obtain ⟨ad266, e266, hx266_0⟩ := Kd.at_bool (Kd.R_reads' HO_9.out).2.2 x14_2 p266 q266
                     (try rw [← Nbq63.out] at hx266_0)
                     (try rw [← Nbq65.out] at hx266_0)
                     obtain rfl : ad264 = ad266 := (by injection e266)
                     replace p266 := eq_true p266; replace q266 := eq_true q266
                     have p267 : 0 ≤ (x14_2 : Int) := of_decide_eq_true (by first | (with_reducible assumption) | assumption)
                     have q267 : x14_2 < (t249.length : Int) := of_decide_eq_true (by first | (with_reducible assumption) | assumption)
                     obtain ⟨ad267, e267, hx267_0⟩ := Kd.at_bool (Kd.R_reads' HO_10.out).2.2 x14_2 p267 q267
                     (try rw [← Nbq63.out] at hx267_0)
                     (try rw [← Nbq65.out] at hx267_0)
                     obtain rfl : ad265 = ad267 := (by injection e267)
                     replace p267 := eq_true p267; replace q267 := eq_true q267
                     go_wp2
                     repeat (go_quiet (fail); try go_wp2)
                     go_meet
                     case rel => exact ⟨_, (false), ((((true) != (false)) != false)), eqA, eqA, H', ⟨by have := HJ6.out; have := HK2.out; have := HJ31.out; have := HJ39.out; have := HJ49.out; first | omega | exact Nat.le_refl _⟩, ⟨raA HO_9.out⟩, ⟨raA HO_10.out⟩, ⟨raA HO_11.out⟩, ⟨raA HO_12.out⟩, ⟨bkA BK244.out⟩, ⟨bkA BK245.out⟩, ⟨blA HB.out⟩⟩
                  ·replace c64 := Bool.eq_false_iff.mpr c64; subst c64
                   have H1 : (if x13_2 = true then (steepleref27_Made.j5 kj49 t246 t249 x11_2 x12_2 (rdOf false t249 x14_2) x14_2 (((false) != (rdOf false t249 x14_2)) != x13_2) a1_0 a1_1 a1_2 a1_3 a1_4) else (steepleref27_Made.j5 kj49 t246 t249 x11_2 x12_2 false x14_2 (((false) != (rdOf false t249 x14_2)) != x13_2) a1_0 a1_1 a1_2 a1_3 a1_4)) = some r := by rw [if_neg (show ¬ (false = true) by decide)] at H; exact H
                   clear H; have H := H1; clear H1
                   by_cases c71 : x13_2 = true
                   ·subst c71
                    have H1 : (steepleref27_Made.j5 kj49 t246 t249 x11_2 x12_2 (rdOf false t249 x14_2) x14_2 (((false) != (rdOf false t249 x14_2)) != true) a1_0 a1_1 a1_2 a1_3 a1_4) = some r := by rw [if_pos rfl] at H; exact H
                    clear H; have H := H1; clear H1; have H' := Aside0.mk H; clear H
                    have p264 : 0 ≤ (x14_2 : Int) := of_decide_eq_true (by first | (with_reducible assumption) | assumption)
                    have q264 : x14_2 < (t246.length : Int) := of_decide_eq_true (by first | (with_reducible assumption) | assumption)
                    obtain ⟨ad264, e264, hx264_0⟩ := Kd.at_bool (Kd.R_reads' HO_9.out).2.2 x14_2 p264 q264
                    (try rw [← Nbq63.out] at hx264_0)
                    cases e264
                    replace p264 := eq_true p264; replace q264 := eq_true q264; obtain ⟨Ao72, co72, eo72⟩ := Kd.R_slice HO_10.out; subst eo72
                    have p265 : 0 ≤ (x14_2 : Int) := of_decide_eq_true (by first | (with_reducible assumption) | assumption)
                    have q265 : x14_2 < (t249.length : Int) := of_decide_eq_true (by first | (with_reducible assumption) | assumption)
                    obtain ⟨ad265, e265, hx265_0⟩ := Kd.at_bool (Kd.R_reads' HO_10.out).2.2 x14_2 p265 q265
                    (try rw [← Nbq63.out] at hx265_0)
                    cases e265
                    replace p265 := eq_true p265; replace q265 := eq_true q265
                    have p266 : 0 ≤ (x14_2 : Int) := of_decide_eq_true (by first | (with_reducible assumption) | assumption)
                    have q266 : x14_2 < (t246.length : Int) := of_decide_eq_true (by first | (with_reducible assumption) | assumption)
                    obtain ⟨ad266, e266, hx266_0⟩ := Kd.at_bool (Kd.R_reads' HO_9.out).2.2 x14_2 p266 q266
                    (try rw [← Nbq63.out] at hx266_0)
                    obtain rfl : ad264 = ad266 := (by injection e266)
                    replace p266 := eq_true p266; replace q266 := eq_true q266
                    have p269 : 0 ≤ (x14_2 : Int) := of_decide_eq_true (by first | (with_reducible assumption) | assumption)
                    have q269 : x14_2 < (t246.length : Int) := of_decide_eq_true (by first | (with_reducible assumption) | assumption)
                    obtain ⟨ad269, e269, hx269_0⟩ := Kd.at_bool (Kd.R_reads' HO_9.out).2.2 x14_2 p269 q269
                    (try rw [← Nbq63.out] at hx269_0)
                    obtain rfl : ad264 = ad269 := (by injection e269)
                    replace p269 := eq_true p269; replace q269 := eq_true q269
                    have p270 : 0 ≤ (x14_2 : Int) := of_decide_eq_true (by first | (with_reducible assumption) | assumption)
                    have q270 : x14_2 < (t249.length : Int) := of_decide_eq_true (by first | (with_reducible assumption) | assumption)
                    obtain ⟨ad270, e270, hx270_0⟩ := Kd.at_bool (Kd.R_reads' HO_10.out).2.2 x14_2 p270 q270
                    (try rw [← Nbq63.out] at hx270_0)
                    obtain rfl : ad265 = ad270 := (by injection e270)
                    replace p270 := eq_true p270; replace q270 := eq_true q270
                    go_wp2
                    repeat (go_quiet (fail); try go_wp2)
                    go_meet
                    case rel => exact ⟨_, (rdOf false t249 x14_2), ((((false) != (rdOf false t249 x14_2)) != true)), eqA, eqA, H', ⟨by have := HJ6.out; have := HK2.out; have := HJ31.out; have := HJ39.out; have := HJ49.out; first | omega | exact Nat.le_refl _⟩, ⟨raA HO_9.out⟩, ⟨raA HO_10.out⟩, ⟨raA HO_11.out⟩, ⟨raA HO_12.out⟩, ⟨bkA BK244.out⟩, ⟨bkA BK245.out⟩, ⟨blA HB.out⟩⟩
                   ·replace c71 := Bool.eq_false_iff.mpr c71; subst c71
                    have H1 : (steepleref27_Made.j5 kj49 t246 t249 x11_2 x12_2 false x14_2 (((false) != (rdOf false t249 x14_2)) != false) a1_0 a1_1 a1_2 a1_3 a1_4) = some r := by rw [if_neg (show ¬ (false = true) by decide)] at H; exact H
                    clear H; have H := H1; clear H1; have H' := Aside0.mk H; clear H
                    have p264 : 0 ≤ (x14_2 : Int) := of_decide_eq_true (by first | (with_reducible assumption) | assumption)
                    have q264 : x14_2 < (t246.length : Int) := of_decide_eq_true (by first | (with_reducible assumption) | assumption)
                    obtain ⟨ad264, e264, hx264_0⟩ := Kd.at_bool (Kd.R_reads' HO_9.out).2.2 x14_2 p264 q264
                    (try rw [← Nbq63.out] at hx264_0)
                    cases e264
                    replace p264 := eq_true p264; replace q264 := eq_true q264; obtain ⟨Ao73, co73, eo73⟩ := Kd.R_slice HO_10.out; subst eo73
                    have p265 : 0 ≤ (x14_2 : Int) := of_decide_eq_true (by first | (with_reducible assumption) | assumption)
                    have q265 : x14_2 < (t249.length : Int) := of_decide_eq_true (by first | (with_reducible assumption) | assumption)
                    obtain ⟨ad265, e265, hx265_0⟩ := Kd.at_bool (Kd.R_reads' HO_10.out).2.2 x14_2 p265 q265
                    (try rw [← Nbq63.out] at hx265_0)
                    cases e265
                    replace p265 := eq_true p265; replace q265 := eq_true q265
                    have p266 : 0 ≤ (x14_2 : Int) := of_decide_eq_true (by first | (with_reducible assumption) | assumption)
                    have q266 : x14_2 < (t246.length : Int) := of_decide_eq_true (by first | (with_reducible assumption) | assumption)
                    obtain ⟨ad266, e266, hx266_0⟩ := Kd.at_bool (Kd.R_reads' HO_9.out).2.2 x14_2 p266 q266
                    (try rw [← Nbq63.out] at hx266_0)
                    obtain rfl : ad264 = ad266 := (by injection e266)
                    replace p266 := eq_true p266; replace q266 := eq_true q266
                    go_wp2
                    repeat (go_quiet (fail); try go_wp2)
                    go_meet
                    case rel => exact ⟨_, (false), ((((false) != (rdOf false t249 x14_2)) != false)), eqA, eqA, H', ⟨by have := HJ6.out; have := HK2.out; have := HJ31.out; have := HJ39.out; have := HJ49.out; first | omega | exact Nat.le_refl _⟩, ⟨raA HO_9.out⟩, ⟨raA HO_10.out⟩, ⟨raA HO_11.out⟩, ⟨raA HO_12.out⟩, ⟨bkA BK244.out⟩, ⟨bkA BK245.out⟩, ⟨blA HB.out⟩⟩
                 ·rw [if_neg c62] at H
                  exact absurd H (by simp)
                ·rw [if_neg c61] at H
                 exact absurd H (by simp)
               ·rw [if_neg c60] at H
                exact absurd H (by simp)
              ·rw [if_neg c59] at H
               have c59b0 : (a1_0 == 7) = false := beq_eq_false_iff_ne.mpr c59; have c59b1 : (a1_0 != 7) = true := bne_iff_ne.mpr c59
               (first | rw [c59b0] | (simp only [i64_w, i32_w]; rw [c59b0]) | skip)
               have H' := Aside0.mk H; clear H
               go_wp2
               repeat (go_quiet (fail); try go_wp2)
               go_meet
               case rel => exact ⟨_, (x13_2), (x15_49), eqA, eqA, H', ⟨by have := HJ6.out; have := HK2.out; have := HJ31.out; have := HJ39.out; have := HJ49.out; first | omega | exact Nat.le_refl _⟩, ⟨raA HO_9.out⟩, ⟨raA HO_10.out⟩, ⟨raA HO_11.out⟩, ⟨raA HO_12.out⟩, ⟨bkA BK244.out⟩, ⟨bkA BK245.out⟩, ⟨blA HB.out⟩⟩
             case rest =>
              clear HC56; (try clear c1); (try clear c2); (try clear p2); (try clear q2); (try clear hx2); (try clear c3); (try clear c4); (try clear q4); (try clear c5); (try clear c6); (try clear p6); (try clear q6); (try clear c7); (try clear c10); (try clear c15); (try clear c15b0); (try clear c16); (try clear c18); (try clear c20); (try clear c23); (try clear p25); (try clear q25); (try clear hx25); (try clear p26); (try clear q26); (try clear hx26); (try clear p27); (try clear q27); (try clear hx27); (try clear c31); (try clear c31b0); (try clear c34); (try clear c36); (try clear c36b0); (try clear c36b1); (try clear c37); (try clear c37b0); (try clear c38); (try clear c38b0); (try clear c41); (try clear c43); (try clear c43b0); (try clear c43b1); (try clear c44); (try clear c44b0); (try clear c45); (try clear c45b0); (try clear q46); (try clear c47); (try clear c48); (try clear c48b0); (try clear c51); (try clear c53); (try clear c53b0); (try clear c53b1); (try clear c54); (try clear c54b0); (try clear c55); (try clear c55b0); (try clear c57); (try clear c59); (try clear c59b0); (try clear c59b1); (try clear c60); (try clear c60b0); (try clear c61); (try clear c61b0); (try clear c62); (try clear c62b0); (try clear q63); (try clear c64); (try clear q65); (try clear c66); (try clear c68); (try clear c71); (try clear hcz11); (try clear hcz13); (try clear hcz17); (try clear hcz19); (try clear hcz24); (try clear hcz25); (try clear hcz35); (try clear hcz42); (try clear hcz52); (try clear hcz58); (try clear hfz11); (try clear hfz13); (try clear hfz17); (try clear hfz19); (try clear hfz24); (try clear hfz25); (try clear hfz35); (try clear hfz42); (try clear hfz52); (try clear hfz58); (try clear hx259_0); (try clear hx260_0); (try clear hx261_0); (try clear hx262_0); (try clear hx263_0); (try clear hx264_0); (try clear hx265_0); (try clear hx266_0); (try clear hx267_0); (try clear hx268_0); (try clear hx269_0); (try clear hx270_0); (try clear p2); (try clear p25); (try clear p259); (try clear p26); (try clear p260); (try clear p261); (try clear p262); (try clear p263); (try clear p264); (try clear p265); (try clear p266); (try clear p267); (try clear p268); (try clear p269); (try clear p270); (try clear p6); (try clear q2); (try clear q25); (try clear q259); (try clear q26); (try clear q260); (try clear q261); (try clear q262); (try clear q263); (try clear q264); (try clear q265); (try clear q266); (try clear q267); (try clear q268); (try clear q269); (try clear q270); (try clear q4); (try clear q46); obtain ⟨kq, x13_55, x15_55, rfl, rfl, HA, HJ55, HO_9, HO_10, HO_11, HO_12, BK244, BK245, HB⟩ := hcut
              cases kq with
              | zero => exact absurd HA.out (by simp [steepleref27_Made.j5])
              | succ kj55 =>
               have H := HA.out; clear HA
               simp only [steepleref27_Made.j5] at H
               by_cases c74 : x11_2.length < 140737488355328
               ·rw [if_pos c74] at H
                have LMc74 := Aside0.mk c74; clear c74
                obtain ⟨y271, hy271⟩ : ∃ y_ : List Bool, y_ = (x11_2 ++ [x15_55]) := ⟨_, rfl⟩
                replace H : (if x12_2.length < 140737488355328 then (steepleref27_Made.l0 kj55 t246 t249 y271 (x12_2 ++ [x13_55]) x13_55 (wrap64 (x14_2 + 1)) a1_0 a1_1 a1_2 a1_3 a1_4) else (none)) = some r := by first | (rw [hy271]; with_reducible exact H) | (have H2_ := (Option.bind_some _ _).symm.trans H; rw [hy271]; with_reducible exact H2_) | (have H2_ := (Option.bind_some _ _).symm.trans H; with_reducible exact H2_) | with_reducible exact H | (rw [hy271]; exact H) | exact H
                have Ny271 := Aside0.mk hy271; clear hy271
                by_cases c75 : x12_2.length < 140737488355328
                ·rw [if_pos c75] at H
                 have LMc75 := Aside0.mk c75; clear c75
                 obtain ⟨y274, hy274⟩ : ∃ y_ : List Bool, y_ = (x12_2 ++ [x13_55]) := ⟨_, rfl⟩
                 replace H : (steepleref27_Made.l0 kj55 t246 t249 y271 y274 x13_55 (wrap64 (x14_2 + 1)) a1_0 a1_1 a1_2 a1_3 a1_4) = some r := by first | (rw [hy274]; with_reducible exact H) | (have H2_ := (Option.bind_some _ _).symm.trans H; rw [hy274]; with_reducible exact H2_) | (have H2_ := (Option.bind_some _ _).symm.trans H; with_reducible exact H2_) | with_reducible exact H | (rw [hy274]; exact H) | exact H
                 have Ny274 := Aside0.mk hy274; clear hy274; have H' := Aside0.mk H; clear H
                 go_wp2_with (first | ((with_reducible refine gate_builtin (b := .append) (xs := #[.tmp 121, .tmp 123]) rfl ?_); at_builtin; refine Kd.R_append Kd.bool (w0 := w) w.heap.size rfl (.tmp 121) (.tmp 123) 78 4 (.bool false) 1 rfl Try.underlying78 info4 rfl (by decide) (by omega) u11 x11_2 x15_55 [.bool x15_55] (fun k_ => some k_ ≠ (.slice Ao33 t246.length co33 : Value).ownBlock ∧ some k_ ≠ (v250 : Value).ownBlock ∧ some k_ ≠ (u12 : Value).ownBlock) (fun _ => False) rfl rfl ?aP (fun _ hk => hk.elim) ?aF ?aO ?aB ?aS ?aL ?_; (case aP => exact rfl); (case aB => exact (blA HB.out)); (case aF => exact (fun k_ hk => ⟨Kd.fresh' (Kd.R_lt (raA HO_9.out)) k_ hk, Kd.fresh' (Kd.R_lt (raA HO_10.out)) k_ hk, Kd.fresh' (Kd.R_lt (raA HO_12.out)) k_ hk⟩)); (case aO => exact (raA HO_11.out)); (case aS => exact (below_size (blA HB.out))); (case aL => have := LMc74.out; omega); intro v272 w76 ho hb hg hat; rw [← Ny271.out] at ho; have n0_ := Aside0.mk (Kd.R_after (ok := (fun k_ => some k_ ≠ (v250 : Value).ownBlock ∧ some k_ ≠ (u12 : Value).ownBlock)) (by (with_reducible repeat (first | apply Kd.R_alloc | apply Kd.R_drewN | apply Kd.R_drew)); exact Kd.R_mono HO_9.out (fun _ hk => ⟨⟨hk.1, hk.2.2⟩, hk.2.1⟩)) hg hat); have n1_ := Aside0.mk (Kd.R_after (ok := (fun k_ => some k_ ≠ (.slice Ao33 t246.length co33 : Value).ownBlock ∧ some k_ ≠ (u12 : Value).ownBlock)) (by (with_reducible repeat (first | apply Kd.R_alloc | apply Kd.R_drewN | apply Kd.R_drew)); exact Kd.R_mono HO_10.out (fun _ hk => ⟨⟨hk.1, hk.2.2⟩, hk.2.1⟩)) hg hat); have n2_ := Aside0.mk (Kd.R_after (ok := (fun k_ => some k_ ≠ (.slice Ao33 t246.length co33 : Value).ownBlock ∧ some k_ ≠ (v250 : Value).ownBlock)) (by (with_reducible repeat (first | apply Kd.R_alloc | apply Kd.R_drewN | apply Kd.R_drew)); exact Kd.R_mono HO_12.out (fun _ hk => ⟨⟨hk.1, hk.2.1⟩, hk.2.2⟩)) hg hat); have n3_ := Aside0.mk (blk_grown (bkA BK244.out) hg (Kd.R_ne HO_11.out BK244.out (by decide))); have n4_ := Aside0.mk (blk_grown (bkA BK245.out) hg (Kd.R_ne HO_11.out BK245.out (by decide))); have n5_ := Aside0.mk (hb); have n6_ := Aside0.mk (ho); clear HO_9; clear HO_10; clear HO_12; clear BK244; clear BK245; clear HB; clear HO_11; have HO_9 := n0_; have HO_10 := n1_; have HO_12 := n2_; have BK244 := n3_; have BK245 := n4_; have HB := n5_; have HO273 := n6_; clear n0_ n1_ n2_ n3_ n4_ n5_ n6_; clear ho hb hg hat) | ((with_reducible refine gate_builtin (b := .append) (xs := #[.tmp 125, .tmp 127]) rfl ?_); at_builtin; refine Kd.R_append Kd.bool (w0 := w) w.heap.size rfl (.tmp 125) (.tmp 127) 78 4 (.bool false) 1 rfl Try.underlying78 info4 rfl (by decide) (by omega) u12 x12_2 x13_55 [.bool x13_55] (fun k_ => some k_ ≠ (.slice Ao33 t246.length co33 : Value).ownBlock ∧ some k_ ≠ (v250 : Value).ownBlock ∧ some k_ ≠ (v272 : Value).ownBlock) (fun _ => False) rfl rfl ?aP (fun _ hk => hk.elim) ?aF ?aO ?aB ?aS ?aL ?_; (case aP => exact rfl); (case aB => exact (blA HB.out)); (case aF => exact (fun k_ hk => ⟨Kd.fresh' (Kd.R_lt (raA HO_9.out)) k_ hk, Kd.fresh' (Kd.R_lt (raA HO_10.out)) k_ hk, Kd.fresh' (Kd.R_lt (raA HO273.out)) k_ hk⟩)); (case aO => exact (by (with_reducible repeat (first | apply Kd.R_alloc | apply Kd.R_drewN | apply Kd.R_drew)); exact Kd.R_mono HO_12.out (fun _ hk => ⟨hk.1.1, ⟨hk.1.2, hk.2⟩⟩))); (case aS => exact (below_size (blA HB.out))); (case aL => have := LMc75.out; omega); intro v275 w77 ho hb hg hat; rw [← Ny274.out] at ho; have n0_ := Aside0.mk (Kd.R_after (ok := (fun k_ => some k_ ≠ (v250 : Value).ownBlock ∧ some k_ ≠ (v272 : Value).ownBlock)) (by (with_reducible repeat (first | apply Kd.R_alloc | apply Kd.R_drewN | apply Kd.R_drew)); exact Kd.R_mono HO_9.out (fun _ hk => ⟨⟨hk.1.1, hk.2⟩, hk.1.2⟩)) hg hat); have n1_ := Aside0.mk (Kd.R_after (ok := (fun k_ => some k_ ≠ (.slice Ao33 t246.length co33 : Value).ownBlock ∧ some k_ ≠ (v272 : Value).ownBlock)) (by (with_reducible repeat (first | apply Kd.R_alloc | apply Kd.R_drewN | apply Kd.R_drew)); exact Kd.R_mono HO_10.out (fun _ hk => ⟨⟨hk.1.1, hk.2⟩, hk.1.2⟩)) hg hat); have n2_ := Aside0.mk (blk_grown (bkA BK244.out) hg (Kd.R_ne HO_12.out BK244.out (by decide))); have n3_ := Aside0.mk (blk_grown (bkA BK245.out) hg (Kd.R_ne HO_12.out BK245.out (by decide))); have n4_ := Aside0.mk (Kd.R_after (ok := (fun k_ => some k_ ≠ (.slice Ao33 t246.length co33 : Value).ownBlock ∧ some k_ ≠ (v250 : Value).ownBlock)) (by (with_reducible repeat (first | apply Kd.R_alloc | apply Kd.R_drewN | apply Kd.R_drew)); exact Kd.R_mono HO273.out (fun _ hk => ⟨⟨hk.1, hk.2.1⟩, hk.2.2⟩)) hg hat); have n5_ := Aside0.mk (hb); have n6_ := Aside0.mk (ho); clear HO_9; clear HO_10; clear BK244; clear BK245; clear HO273; clear HB; clear HO_12; have HO_9 := n0_; have HO_10 := n1_; have BK244 := n2_; have BK245 := n3_; have HO273 := n4_; have HB := n5_; have HO276 := n6_; clear n0_ n1_ n2_ n3_ n4_ n5_ n6_; clear ho hb hg hat))
                 repeat (go_quiet (fail); try go_wp2_with (first | ((with_reducible refine gate_builtin (b := .append) (xs := #[.tmp 121, .tmp 123]) rfl ?_); at_builtin; refine Kd.R_append Kd.bool (w0 := w) w.heap.size rfl (.tmp 121) (.tmp 123) 78 4 (.bool false) 1 rfl Try.underlying78 info4 rfl (by decide) (by omega) u11 x11_2 x15_55 [.bool x15_55] (fun k_ => some k_ ≠ (.slice Ao33 t246.length co33 : Value).ownBlock ∧ some k_ ≠ (v250 : Value).ownBlock ∧ some k_ ≠ (u12 : Value).ownBlock) (fun _ => False) rfl rfl ?aP (fun _ hk => hk.elim) ?aF ?aO ?aB ?aS ?aL ?_; (case aP => exact rfl); (case aB => exact (blA HB.out)); (case aF => exact (fun k_ hk => ⟨Kd.fresh' (Kd.R_lt (raA HO_9.out)) k_ hk, Kd.fresh' (Kd.R_lt (raA HO_10.out)) k_ hk, Kd.fresh' (Kd.R_lt (raA HO_12.out)) k_ hk⟩)); (case aO => exact (raA HO_11.out)); (case aS => exact (below_size (blA HB.out))); (case aL => have := LMc74.out; omega); intro v272 w76 ho hb hg hat; rw [← Ny271.out] at ho; have n0_ := Aside0.mk (Kd.R_after (ok := (fun k_ => some k_ ≠ (v250 : Value).ownBlock ∧ some k_ ≠ (u12 : Value).ownBlock)) (by (with_reducible repeat (first | apply Kd.R_alloc | apply Kd.R_drewN | apply Kd.R_drew)); exact Kd.R_mono HO_9.out (fun _ hk => ⟨⟨hk.1, hk.2.2⟩, hk.2.1⟩)) hg hat); have n1_ := Aside0.mk (Kd.R_after (ok := (fun k_ => some k_ ≠ (.slice Ao33 t246.length co33 : Value).ownBlock ∧ some k_ ≠ (u12 : Value).ownBlock)) (by (with_reducible repeat (first | apply Kd.R_alloc | apply Kd.R_drewN | apply Kd.R_drew)); exact Kd.R_mono HO_10.out (fun _ hk => ⟨⟨hk.1, hk.2.2⟩, hk.2.1⟩)) hg hat); have n2_ := Aside0.mk (Kd.R_after (ok := (fun k_ => some k_ ≠ (.slice Ao33 t246.length co33 : Value).ownBlock ∧ some k_ ≠ (v250 : Value).ownBlock)) (by (with_reducible repeat (first | apply Kd.R_alloc | apply Kd.R_drewN | apply Kd.R_drew)); exact Kd.R_mono HO_12.out (fun _ hk => ⟨⟨hk.1, hk.2.1⟩, hk.2.2⟩)) hg hat); have n3_ := Aside0.mk (blk_grown (bkA BK244.out) hg (Kd.R_ne HO_11.out BK244.out (by decide))); have n4_ := Aside0.mk (blk_grown (bkA BK245.out) hg (Kd.R_ne HO_11.out BK245.out (by decide))); have n5_ := Aside0.mk (hb); have n6_ := Aside0.mk (ho); clear HO_9; clear HO_10; clear HO_12; clear BK244; clear BK245; clear HB; clear HO_11; have HO_9 := n0_; have HO_10 := n1_; have HO_12 := n2_; have BK244 := n3_; have BK245 := n4_; have HB := n5_; have HO273 := n6_; clear n0_ n1_ n2_ n3_ n4_ n5_ n6_; clear ho hb hg hat) | ((with_reducible refine gate_builtin (b := .append) (xs := #[.tmp 125, .tmp 127]) rfl ?_); at_builtin; refine Kd.R_append Kd.bool (w0 := w) w.heap.size rfl (.tmp 125) (.tmp 127) 78 4 (.bool false) 1 rfl Try.underlying78 info4 rfl (by decide) (by omega) u12 x12_2 x13_55 [.bool x13_55] (fun k_ => some k_ ≠ (.slice Ao33 t246.length co33 : Value).ownBlock ∧ some k_ ≠ (v250 : Value).ownBlock ∧ some k_ ≠ (v272 : Value).ownBlock) (fun _ => False) rfl rfl ?aP (fun _ hk => hk.elim) ?aF ?aO ?aB ?aS ?aL ?_; (case aP => exact rfl); (case aB => exact (blA HB.out)); (case aF => exact (fun k_ hk => ⟨Kd.fresh' (Kd.R_lt (raA HO_9.out)) k_ hk, Kd.fresh' (Kd.R_lt (raA HO_10.out)) k_ hk, Kd.fresh' (Kd.R_lt (raA HO273.out)) k_ hk⟩)); (case aO => exact (by (with_reducible repeat (first | apply Kd.R_alloc | apply Kd.R_drewN | apply Kd.R_drew)); exact Kd.R_mono HO_12.out (fun _ hk => ⟨hk.1.1, ⟨hk.1.2, hk.2⟩⟩))); (case aS => exact (below_size (blA HB.out))); (case aL => have := LMc75.out; omega); intro v275 w77 ho hb hg hat; rw [← Ny274.out] at ho; have n0_ := Aside0.mk (Kd.R_after (ok := (fun k_ => some k_ ≠ (v250 : Value).ownBlock ∧ some k_ ≠ (v272 : Value).ownBlock)) (by (with_reducible repeat (first | apply Kd.R_alloc | apply Kd.R_drewN | apply Kd.R_drew)); exact Kd.R_mono HO_9.out (fun _ hk => ⟨⟨hk.1.1, hk.2⟩, hk.1.2⟩)) hg hat); have n1_ := Aside0.mk (Kd.R_after (ok := (fun k_ => some k_ ≠ (.slice Ao33 t246.length co33 : Value).ownBlock ∧ some k_ ≠ (v272 : Value).ownBlock)) (by (with_reducible repeat (first | apply Kd.R_alloc | apply Kd.R_drewN | apply Kd.R_drew)); exact Kd.R_mono HO_10.out (fun _ hk => ⟨⟨hk.1.1, hk.2⟩, hk.1.2⟩)) hg hat); have n2_ := Aside0.mk (blk_grown (bkA BK244.out) hg (Kd.R_ne HO_12.out BK244.out (by decide))); have n3_ := Aside0.mk (blk_grown (bkA BK245.out) hg (Kd.R_ne HO_12.out BK245.out (by decide))); have n4_ := Aside0.mk (Kd.R_after (ok := (fun k_ => some k_ ≠ (.slice Ao33 t246.length co33 : Value).ownBlock ∧ some k_ ≠ (v250 : Value).ownBlock)) (by (with_reducible repeat (first | apply Kd.R_alloc | apply Kd.R_drewN | apply Kd.R_drew)); exact Kd.R_mono HO273.out (fun _ hk => ⟨⟨hk.1, hk.2.1⟩, hk.2.2⟩)) hg hat); have n5_ := Aside0.mk (hb); have n6_ := Aside0.mk (ho); clear HO_9; clear HO_10; clear BK244; clear BK245; clear HO273; clear HB; clear HO_12; have HO_9 := n0_; have HO_10 := n1_; have BK244 := n2_; have BK245 := n3_; have HO273 := n4_; have HB := n5_; have HO276 := n6_; clear n0_ n1_ n2_ n3_ n4_ n5_ n6_; clear ho hb hg hat)))
                 go_roundg kj55
                 case measure => have := HJ6.out; have := HK2.out; have := HJ31.out; have := HJ39.out; have := HJ49.out; have := HJ55.out; omega
                 case rel => exact ⟨(y271), (y274), (x13_55), (wrap64 (x14_2 + 1)), eqA, eqA, H', ⟨by have := HJ6.out; have := HK2.out; have := HJ31.out; have := HJ39.out; have := HJ49.out; have := HJ55.out; omega⟩, ⟨by (with_reducible repeat (first | apply Kd.R_alloc | apply Kd.R_drewN | apply Kd.R_drew)); exact Kd.R_mono HO_9.out (fun _ hk => ⟨hk.1.1, ⟨hk.1.2, hk.2⟩⟩)⟩, ⟨by (with_reducible repeat (first | apply Kd.R_alloc | apply Kd.R_drewN | apply Kd.R_drew)); exact Kd.R_mono HO_10.out (fun _ hk => ⟨hk.1.1, ⟨hk.1.2, hk.2⟩⟩)⟩, ⟨by (with_reducible repeat (first | apply Kd.R_alloc | apply Kd.R_drewN | apply Kd.R_drew)); exact Kd.R_mono HO273.out (fun _ hk => ⟨hk.1.1, ⟨hk.1.2, hk.2⟩⟩)⟩, ⟨raA HO276.out⟩, ⟨bkA BK244.out⟩, ⟨bkA BK245.out⟩, ⟨blA HB.out⟩⟩
                ·rw [if_neg c75] at H
                 exact absurd H (by simp)
               ·rw [if_neg c74] at H
                exact absurd H (by simp)
      ·rw [if_neg c31] at H
       have c31b0 : decide (x14_2 < (t246.length : Int)) = false := decide_eq_false c31; clear c31; replace H := Option.bind_eq_some_iff.mp H; obtain ⟨t277, A780, H⟩ := H
       (try dsimp only at H)
       have A78 := Aside0.mk A780; clear A780; replace H := Option.bind_eq_some_iff.mp H; obtain ⟨t278, A790, H⟩ := H; replace H : (some (([t277, t278] : List Int))) = some r := H; have A79 := Aside0.mk A790; clear A790
       obtain ⟨y279, hy279⟩ : ∃ y_ : List Int, y_ = (([t277, t278] : List Int)) := ⟨_, rfl⟩
       replace H : (some y279) = some r := by first | (rw [hy279]; with_reducible exact H) | (have H2_ := (Option.bind_some _ _).symm.trans H; rw [hy279]; with_reducible exact H2_) | (have H2_ := (Option.bind_some _ _).symm.trans H; with_reducible exact H2_) | with_reducible exact H | (rw [hy279]; exact H) | exact H
       have Ny279 := Aside0.mk hy279; clear hy279; obtain rfl := Option.some.inj H; obtain ⟨Ao80, co80, eo80⟩ := Kd.R_slice HO_9.out; subst eo80; obtain ⟨Ao81, co81, eo81⟩ := Kd.R_slice HO_11.out; subst eo81
       go_wp2_with (first | (go_at_call 83; (with_reducible refine (steepleref27_Number.calls k2 _ _ x11_2 t277 _ ?side1 ?side2 A78.out).mono ?_); (case side1 => repeat (first | exact (Kd.R_reads' HO_11.out).2.2 | (with_reducible refine Kd.C_alloc ?_ _) | (with_reducible refine Kd.C_drewN ?_ _) | (with_reducible refine Kd.C_drew ?_))); (case side2 => exact (Kd.R_reads' HO_11.out).2.1); rintro e w' ⟨rfl, ⟨nd, rfl⟩⟩; (try first | exact ⟨rfl, _, World.drewN_drewN _ _ _⟩ | exact ⟨rfl, _, Eq.trans (World.drewN_drewN _ _ _) (congrArg (World.drewN _) (Nat.add_assoc _ _ _))⟩); obtain ⟨Ao82, co82, eo82⟩ := Kd.R_slice HO_12.out; subst eo82) | (go_at_call 83; (with_reducible refine (steepleref27_Number.calls k2 _ _ x12_2 t278 _ ?side1 ?side2 A79.out).mono ?_); (case side1 => repeat (first | exact (Kd.R_reads' HO_12.out).2.2 | (with_reducible refine Kd.C_alloc ?_ _) | (with_reducible refine Kd.C_drewN ?_ _) | (with_reducible refine Kd.C_drew ?_))); (case side2 => exact (Kd.R_reads' HO_12.out).2.1); rintro e w' ⟨rfl, ⟨nd, rfl⟩⟩; (try first | exact ⟨rfl, _, World.drewN_drewN _ _ _⟩ | exact ⟨rfl, _, Eq.trans (World.drewN_drewN _ _ _) (congrArg (World.drewN _) (Nat.add_assoc _ _ _))⟩)) | ((with_reducible refine gate_dst (N := 133) rfl ?_); refine Kd.R_lit (Kd.int .u64) _ 43 ?hg (N := 133) ?hd (xs := ([t277, t278] : List Int)) (inner := [.int .u64 t277, .int .u64 t278]) (ok := fun _ => True) (okp := fun _ => True) ?hr ?hp (fun _ hk => hk) trivial (Below.refl _ _) (Nat.le_refl _) (by simp) ?_; (case hd => rfl); (case hg => rfl); (case hr => first | (go_simp; done) | (go_simp; rfl)); (case hp => exact (Reps.one (show Kd.M (Kd.int .u64) _ _ _ t277 [.int .u64 t277] from rfl) (Reps.one (show Kd.M (Kd.int .u64) _ _ _ t278 [.int .u64 t278] from rfl) (Reps.none _ _)))); intro v280 w83 ho84 hb hg_ hnew_; clear hg_ hnew_; (first | rw [← Ny279.out] at ho84 | (simp only [Int.reduceToNat] at ho84; rw [← Ny279.out] at ho84)); have n0_ := Aside0.mk (Kd.R_below (raA HO_9.out) hb); have n1_ := Aside0.mk (Kd.R_below (raA HO_10.out) hb); have n2_ := Aside0.mk (Kd.R_below (raA HO_11.out) hb); have n3_ := Aside0.mk (Kd.R_below (raA HO_12.out) hb); have n4_ := Aside0.mk (Kd.R_lower ho84 (below_size (blA HB.out))); have n5_ := Aside0.mk (blk_below (bkA BK244.out) hb); have n6_ := Aside0.mk (blk_below (bkA BK245.out) hb); have n7_ := Aside0.mk (below_step (blA HB.out) hb); clear HO_9; clear HO_10; clear HO_11; clear HO_12; clear BK244; clear BK245; clear HB; have HO_9 := n0_; have HO_10 := n1_; have HO_11 := n2_; have HO_12 := n3_; have HO281 := n4_; have BK244 := n5_; have BK245 := n6_; have HB := n7_; clear n0_ n1_ n2_ n3_ n4_ n5_ n6_ n7_; clear hb ho84))
       repeat (go_quiet (fail); try go_wp2_with (first | (go_at_call 83; (with_reducible refine (steepleref27_Number.calls k2 _ _ x11_2 t277 _ ?side1 ?side2 A78.out).mono ?_); (case side1 => repeat (first | exact (Kd.R_reads' HO_11.out).2.2 | (with_reducible refine Kd.C_alloc ?_ _) | (with_reducible refine Kd.C_drewN ?_ _) | (with_reducible refine Kd.C_drew ?_))); (case side2 => exact (Kd.R_reads' HO_11.out).2.1); rintro e w' ⟨rfl, ⟨nd, rfl⟩⟩; (try first | exact ⟨rfl, _, World.drewN_drewN _ _ _⟩ | exact ⟨rfl, _, Eq.trans (World.drewN_drewN _ _ _) (congrArg (World.drewN _) (Nat.add_assoc _ _ _))⟩); obtain ⟨Ao82, co82, eo82⟩ := Kd.R_slice HO_12.out; subst eo82) | (go_at_call 83; (with_reducible refine (steepleref27_Number.calls k2 _ _ x12_2 t278 _ ?side1 ?side2 A79.out).mono ?_); (case side1 => repeat (first | exact (Kd.R_reads' HO_12.out).2.2 | (with_reducible refine Kd.C_alloc ?_ _) | (with_reducible refine Kd.C_drewN ?_ _) | (with_reducible refine Kd.C_drew ?_))); (case side2 => exact (Kd.R_reads' HO_12.out).2.1); rintro e w' ⟨rfl, ⟨nd, rfl⟩⟩; (try first | exact ⟨rfl, _, World.drewN_drewN _ _ _⟩ | exact ⟨rfl, _, Eq.trans (World.drewN_drewN _ _ _) (congrArg (World.drewN _) (Nat.add_assoc _ _ _))⟩)) | ((with_reducible refine gate_dst (N := 133) rfl ?_); refine Kd.R_lit (Kd.int .u64) _ 43 ?hg (N := 133) ?hd (xs := ([t277, t278] : List Int)) (inner := [.int .u64 t277, .int .u64 t278]) (ok := fun _ => True) (okp := fun _ => True) ?hr ?hp (fun _ hk => hk) trivial (Below.refl _ _) (Nat.le_refl _) (by simp) ?_; (case hd => rfl); (case hg => rfl); (case hr => first | (go_simp; done) | (go_simp; rfl)); (case hp => exact (Reps.one (show Kd.M (Kd.int .u64) _ _ _ t277 [.int .u64 t277] from rfl) (Reps.one (show Kd.M (Kd.int .u64) _ _ _ t278 [.int .u64 t278] from rfl) (Reps.none _ _)))); intro v280 w83 ho84 hb hg_ hnew_; clear hg_ hnew_; (first | rw [← Ny279.out] at ho84 | (simp only [Int.reduceToNat] at ho84; rw [← Ny279.out] at ho84)); have n0_ := Aside0.mk (Kd.R_below (raA HO_9.out) hb); have n1_ := Aside0.mk (Kd.R_below (raA HO_10.out) hb); have n2_ := Aside0.mk (Kd.R_below (raA HO_11.out) hb); have n3_ := Aside0.mk (Kd.R_below (raA HO_12.out) hb); have n4_ := Aside0.mk (Kd.R_lower ho84 (below_size (blA HB.out))); have n5_ := Aside0.mk (blk_below (bkA BK244.out) hb); have n6_ := Aside0.mk (blk_below (bkA BK245.out) hb); have n7_ := Aside0.mk (below_step (blA HB.out) hb); clear HO_9; clear HO_10; clear HO_11; clear HO_12; clear BK244; clear BK245; clear HB; have HO_9 := n0_; have HO_10 := n1_; have HO_11 := n2_; have HO_12 := n3_; have HO281 := n4_; have BK244 := n5_; have BK245 := n6_; have HB := n7_; clear n0_ n1_ n2_ n3_ n4_ n5_ n6_ n7_; clear hb ho84)))
       go_ret
       exact ⟨_, by first | rfl | (simp [errW_none, errW_some] <;> rfl) | (simp [*, errW_none, errW_some] <;> rfl), raA HO281.out, blA HB.out⟩
end Go.Proofs.Ythiiodgpdoljoaa.PLw
namespace Go.Proofs.Ythiiodgpdoljoaa.Bit
open Go Go.RowKit Go.Proofs.Ythiiodgpdoljoaa.PLw Go.Proofs.YthiiodgpdoljoaaW.PrintWords Go.Proofs.YthiiodgpdoljoaaW.PrintLast Go.Proofs.YthiiodgpdoljoaaW.PrintMore
set_option linter.unusedVariables false
set_option linter.unusedSimpArgs false
theorem evFuel {α : Type} {g : Nat → Option α} {r : α} (n : Nat) (h : ∀ m, g (m + n) = some r) : Ev g r :=
  ⟨n, fun k hk => by obtain ⟨m, rfl⟩ := Nat.exists_eq_add_of_le' hk; exact h m⟩
theorem evBig {α : Type} {g : Nat → Option α} {r : α} (n : Nat) (h : ∀ m, n ≤ m → g m = some r) : Ev g r := ⟨n, h⟩
/-- A step of several rounds at once. -/
theorem evDown {α : Type} {g f : Nat → Option α} {r : α} (n : Nat) (h : ∀ k, g (k + n) = f k) (k : Ev f r) : Ev g r := by
  obtain ⟨K, hK⟩ := k
  refine ⟨K + n, fun k hk => ?_⟩
  obtain ⟨m, rfl⟩ := Nat.exists_eq_add_of_le' (show n ≤ k by omega)
  rw [h m]
  exact hK m (by omega)
def bitK (k : Int) (x y i : Nat) : Bool := if k = 1 then x.testBit i != y.testBit i else if k = 2 then x.testBit i && y.testBit i else if k = 3 then !x.testBit i else if k = 7 then (x.testBit i != y.testBit i) != car x y i else false
def carK (k : Int) (x y i : Nat) : Bool := if k = 7 then car x y i else false
theorem rdBit (n x i : Nat) (h : i < n) : rdOf false (bitsOf n x) (i : Int) = x.testBit i := by
  unfold rdOf
  rw [Int.toNat_natCast, bitsOf_getD]
  simp [h]
theorem madeRound (n x y : Nat) (kind q1 q2 q3 q4 : Int) (hk : kind = 1 ∨ kind = 2 ∨ kind = 3 ∨ kind = 7) (i : Nat) (hi : i < n) (hn : n ≤ 32) (out carry : List Bool) (ho : out.length ≤ 100) (hc : carry.length ≤ 100) (r : List Int)
    (h : Ev (fun k => steepleref27_Made.l0 k (bitsOf n x) (bitsOf n y) (out ++ [bitK kind x y i]) (carry ++ [carK kind x y (i + 1)]) (carK kind x y (i + 1)) ((i + 1 : Nat) : Int) kind q1 q2 q3 q4) r) :
    Ev (fun k => steepleref27_Made.l0 k (bitsOf n x) (bitsOf n y) out carry (carK kind x y i) (i : Int) kind q1 q2 q3 q4) r := by
  have e1 := rdBit n x i hi
  have e2 := rdBit n y i hi
  have l1 : ((bitsOf n x).length : Int) = n := by rw [bitsOf_len]
  have l2 : ((bitsOf n y).length : Int) = n := by rw [bitsOf_len]
  have i0 : (0 : Int) ≤ (i : Int) := by omega
  have i1 : (i : Int) < (n : Int) := by omega
  have w1 : wrap64 ((i : Int) + 1) = ((i + 1 : Nat) : Int) := by rw [w64 (by omega) (by omega)]; omega
  have o1 : out.length < 140737488355328 := by omega
  have c1 : carry.length < 140737488355328 := by omega
  rcases hk with rfl | rfl | rfl | rfl
  · refine evDown 5 (fun k => ?_) h
    simp only [steepleref27_Made.l0, steepleref27_Made.j2, steepleref27_Made.j3, steepleref27_Made.j4, steepleref27_Made.j5, Int.reduceEq, if_true, if_false, l1, l2, i0, i1, e1, e2, o1, c1, w1, bitK, carK]
  · refine evDown 5 (fun k => ?_) h
    cases hx : x.testBit i <;>
    simp only [steepleref27_Made.l0, steepleref27_Made.j2, steepleref27_Made.j3, steepleref27_Made.j4, steepleref27_Made.j5, Int.reduceEq, if_true, if_false, l1, l2, i0, i1, e1, e2, o1, c1, w1, bitK, carK, hx, Bool.true_and, Bool.false_and, Bool.false_eq_true]
  · refine evDown 5 (fun k => ?_) h
    simp only [steepleref27_Made.l0, steepleref27_Made.j2, steepleref27_Made.j3, steepleref27_Made.j4, steepleref27_Made.j5, Int.reduceEq, if_true, if_false, l1, l2, i0, i1, e1, e2, o1, c1, w1, bitK, carK]
  · refine evDown 5 (fun k => ?_) h
    cases hx : x.testBit i <;> cases hy : y.testBit i <;> cases hz : car x y i <;>
    simp only [steepleref27_Made.l0, steepleref27_Made.j2, steepleref27_Made.j3, steepleref27_Made.j4, steepleref27_Made.j5, Int.reduceEq, if_true, if_false, l1, l2, i0, i1, e1, e2, o1, c1, w1, bitK, carK, car, hx, hy, hz, Bool.true_and, Bool.false_and, Bool.and_true, Bool.and_false, Bool.or_true, Bool.true_or, Bool.or_false, Bool.false_or, Bool.false_eq_true]
theorem madeLoop (n x y : Nat) (kind q1 q2 q3 q4 : Int) (hk : kind = 1 ∨ kind = 2 ∨ kind = 3 ∨ kind = 7) (hn : n ≤ 32) (d : Nat) : ∀ i : Nat, n - i = d → i ≤ n →
    Ev (fun k => steepleref27_Made.l0 k (bitsOf n x) (bitsOf n y) ((List.range i).map (bitK kind x y)) ((List.range i).map fun j => carK kind x y (j + 1)) (carK kind x y i) (i : Int) kind q1 q2 q3 q4)
      [((num ((List.range n).map (bitK kind x y)) : Nat) : Int), ((num ((List.range n).map fun j => carK kind x y (j + 1)) : Nat) : Int)] := by
  induction d with
  | zero =>
    intro i hd hi
    obtain rfl : i = n := by omega
    refine evFuel 50 fun m => ?_
    rw [show m + 50 = (m + 49) + 1 from rfl]
    simp only [steepleref27_Made.l0]
    rw [if_neg (by rw [bitsOf_len]; omega), number_eq _ _ (by simp; omega) (by omega), number_eq _ _ (by simp; omega) (by omega)]
    rfl
  | succ d ih =>
    intro i hd hi
    refine madeRound n x y kind q1 q2 q3 q4 hk i (by omega) hn _ _ (by simp; omega) (by simp; omega) _ ?_
    have := ih (i + 1) (by omega) (by omega)
    rw [List.range_succ, List.map_append, List.map_append] at this
    exact this
theorem madeRef (w : Nat) (hw : w ≤ 5) (a1 a2 a3 a4 : Int) (l : List S106) (kind dst p q : Int) (s x y : Nat) (hk : 1 ≤ kind) (hk7 : kind ≤ 7) (hs : 4 ≤ kind → kind ≤ 6 → s < 2 ^ w) (hx : x < 2 ^ 2 ^ w) (hy : y < 2 ^ 2 ^ w) :
    Ev (fun k => steepleref27_Made.f k (w : Int) a1 a2 a3 a4 l kind dst p q (s : Int) (x : Int) (y : Int)) [((madeN (2 ^ w) kind s x y).1 : Int), ((madeN (2 ^ w) kind s x y).2 : Int)] := by
  have h2 := two_le hw
  have hp : 2 ^ 2 ^ w ≤ 2 ^ 32 := Nat.pow_le_pow_right (by decide) h2.2
  have hx64 : x < 2 ^ 64 := by omega
  have hy64 : y < 2 ^ 64 := by omega
  unfold steepleref27_Made.f
  refine Ev.bind (evBig 61 fun m hm => word_eq m w hw x hx64 (by omega)) ?_
  refine Ev.bind (evBig 61 fun m hm => word_eq m w hw y hy64 (by omega)) ?_
  have hk' : kind = 1 ∨ kind = 2 ∨ kind = 3 ∨ kind = 4 ∨ kind = 5 ∨ kind = 6 ∨ kind = 7 := by omega
  have low : kind = 1 ∨ kind = 2 ∨ kind = 3 ∨ kind = 7 → Ev (fun k => steepleref27_Made.j0 k (bitsOf (2 ^ w) x) (bitsOf (2 ^ w) y) false (w : Int) a1 a2 a3 a4 l kind dst p q (s : Int)) [((num ((List.range (2 ^ w)).map (bitK kind x y)) : Nat) : Int), ((num ((List.range (2 ^ w)).map fun j => carK kind x y (j + 1)) : Nat) : Int)] := by
    intro hk4
    refine Ev.step (f := fun k => steepleref27_Made.l0 k (bitsOf (2 ^ w) x) (bitsOf (2 ^ w) y) [] [] false 0 kind dst p q (s : Int)) (fun k => by simp only [steepleref27_Made.j0, Bool.false_eq_true, if_false]) ?_
    have := madeLoop (2 ^ w) x y kind dst p q (s : Int) hk4 h2.2 (2 ^ w) 0 (by omega) (by omega)
    have hc : carK kind x y 0 = false := by unfold carK car; simp
    rw [hc] at this
    exact this
  have high : 4 ≤ kind → kind ≤ 6 → Ev (fun k => steepleref27_Made.j0 k (bitsOf (2 ^ w) x) (bitsOf (2 ^ w) y) true (w : Int) a1 a2 a3 a4 l kind dst p q (s : Int)) [((num ((List.range (2 ^ w)).map (turned (kind - 3) (2 ^ w) s (bitsOf (2 ^ w) x))) : Nat) : Int), 0] := by
    intro h4 h6
    have hs' := hs h4 h6
    refine evFuel 3000 fun m => ?_
    rw [show m + 3000 = (m + 2999) + 1 from rfl]
    simp only [steepleref27_Made.j0, if_true]
    rw [w64 (by omega) (by omega), bits_eq _ w hw _ s (by omega) _ (by rw [bitsOf_len]; omega) (by omega), bitsOf_len]
    simp only [Option.bind_some]
    rw [number_eq _ _ (by simp; omega) (by omega)]
    rfl
  rcases hk' with rfl | rfl | rfl | rfl | rfl | rfl | rfl
  · have h := low (by decide)
    rw [show (List.range (2 ^ w)).map (bitK 1 x y) = (List.range (2 ^ w)).map (fun i => x.testBit i != y.testBit i) from rfl, made_xor hx hy] at h
    rw [show num ((List.range (2 ^ w)).map fun j => carK 1 x y (j + 1)) = 0 from num_eq fun i => by rw [range_getD]; simp [carK]] at h
    exact h
  · have h := low (by decide)
    rw [show (List.range (2 ^ w)).map (bitK 2 x y) = (List.range (2 ^ w)).map (fun i => x.testBit i && y.testBit i) from rfl, made_and hx hy] at h
    rw [show num ((List.range (2 ^ w)).map fun j => carK 2 x y (j + 1)) = 0 from num_eq fun i => by rw [range_getD]; simp [carK]] at h
    exact h
  · have h := low (by decide)
    rw [show (List.range (2 ^ w)).map (bitK 3 x y) = (List.range (2 ^ w)).map (fun i => !x.testBit i) from rfl, made_not hx] at h
    rw [show num ((List.range (2 ^ w)).map fun j => carK 3 x y (j + 1)) = 0 from num_eq fun i => by rw [range_getD]; simp [carK]] at h
    exact h
  · have h := high (by decide) (by decide)
    rw [show (4 : Int) - 3 = 1 from rfl, turn_left] at h
    exact h
  · have h := high (by decide) (by decide)
    rw [show (5 : Int) - 3 = 2 from rfl, turn_right _ _ _ hx] at h
    exact h
  · have h := high (by decide) (by decide)
    rw [show (6 : Int) - 3 = 3 from rfl, turn_round _ _ _ hx (hs (by decide) (by decide))] at h
    exact h
  · have h := low (by decide)
    rw [show (List.range (2 ^ w)).map (bitK 7 x y) = (List.range (2 ^ w)).map (fun i => (x.testBit i != y.testBit i) != car x y i) from rfl, made_sum] at h
    rw [show (List.range (2 ^ w)).map (fun j => carK 7 x y (j + 1)) = (List.range (2 ^ w)).map (fun i => car x y (i + 1)) from rfl, made_carry hx hy] at h
    exact h
end Go.Proofs.Ythiiodgpdoljoaa.Bit
namespace Go.Proofs.Ythiiodgpdoljoaa.PLw
open Go.RowKit Go.Proofs.YthiiodgpdoljoaaW.PrintWords Go.Proofs.YthiiodgpdoljoaaW.PrintLast Go.Proofs.YthiiodgpdoljoaaW.PrintMore
attribute [local go_sem] max2_int min2_int max_two min_two max_three min_three max_four min_four   -- for this text's walks alone
set_option linter.unusedVariables false
set_option linter.unusedSimpArgs false
/-! ### circuit_Check: function 21 -/
def circuit_Check.f (k : Nat) (a0_0 : Int) (a0_1 : Int) (a0_2 : Int) (a0_3 : Int) (a0_4 : Int) (l0_5 : List (S105)) : Option (Int) := (circuit_look.f k a0_0 a0_1 a0_2 a0_3 a0_4 l0_5).bind fun bt152 => (some bt152.2)
theorem circuit_Check.mono : ∀ a0 a1 a2 a3 a4 a5 k, LeO (circuit_Check.f k a0 a1 a2 a3 a4 a5) (circuit_Check.f (k + 1) a0 a1 a2 a3 a4 a5) := by
 intro a0 a1 a2 a3 a4 a5 k
 unfold circuit_Check.f
 repeat' first
   | (with_reducible exact circuit_look.mono _ _ _ _ _ _ _)
   | (with_reducible exact LeO.refl _)
   | (with_reducible exact LeO.none _)
   | (with_reducible refine LeO.ite ?_ ?_)
   | (with_reducible refine LeO.bind ?_ (fun _ => ?_))
   | exact circuit_look.mono _ _ _ _ _ _ _
   | exact LeO.none _
   | refine LeO.ite ?_ ?_
   | refine LeO.bind ?_ (fun _ => ?_)
set_option maxHeartbeats 8000000 in
set_option maxRecDepth 100000 in
theorem circuit_Check.calls (k : Nat) (a0_0 : Int) (a0_1 : Int) (a0_2 : Int) (a0_3 : Int) (a0_4 : Int) (A0_5 : Option Addr) (c0_5 : Nat) (l0_5 : List (S105)) (r : Int) (w : World) (hr0_5 : Kd.C k105 w A0_5 l0_5.length l0_5) (hc0_5 : l0_5.length ≤ c0_5) (h : circuit_Check.f k a0_0 a0_1 a0_2 a0_3 a0_4 l0_5 = some r) :
  Calls Try.prog 21 #[.agg #[.int .i64 a0_0, .int .i64 a0_1, .int .i64 a0_2, .int .i64 a0_3, .int .i64 a0_4, .slice A0_5 l0_5.length c0_5]] w fun e w' => e = .returned (.int .i64 r) ∧ Below w.heap.size w w' := by
 have hu24 := Try.underlying24; have HR0_5 := Aside0.mk hr0_5; have HC0_5 := Aside0.mk hc0_5; clear hr0_5 hc0_5; have HB := Aside0.mk (Below.refl w.heap.size w)
 have H : ((circuit_look.f k a0_0 a0_1 a0_2 a0_3 a0_4 l0_5).bind fun bt152 => (some bt152.2)) = some r := h
 clear h; replace H := Option.bind_eq_some_iff.mp H
 obtain ⟨⟨t152, t153⟩, A20, H⟩ := H
 (try dsimp only at H); have A2 := Aside0.mk A20; clear A20; obtain rfl := Option.some.inj H
 go_enter Try.func21, Try.ntmps21
 go_wp2_with (first | ((with_reducible refine gate_dst (N := 1) rfl ?_); refine box_event ?hg (N := 1) ?hd (cs := #[.int .i64 a0_0, .int .i64 a0_1, .int .i64 a0_2, .int .i64 a0_3, .int .i64 a0_4, .slice A0_5 l0_5.length c0_5]) (t := 24) ?hr ?_; (case hd => rfl); (case hg => rfl); (case hr => first | (go_simp; done) | (go_simp; rfl)); intro gb151 hg w3 hbox hb; have n0_ := Aside0.mk (below_step (blA HB.out) hb); have n1_ := Aside0.mk (hbox); have n2_ := Aside0.mk ((by rw [hg]; exact (below_size (blA HB.out)) : w.heap.size ≤ gb151)); have n3_ := Aside0.mk ((by rw [hg]; exact (below_size (blA HB.out)) : w.heap.size ≤ gb151)); clear HB; have HB := n0_; have BK151 := n1_; have GW151 := n2_; have GE151 := n3_; clear n0_ n1_ n2_ n3_; clear hb hbox hg; have hcz4 := fun i => blk_cell BK151.out i; have hfz4 := fun i => blk_frozen BK151.out i; ) | ((with_reducible refine gate_callee (f := 64) rfl ?_); refine goesL_ (some 7) rfl rfl Try.func64 (by kernel_rfl) rfl #[.agg #[.int .i64 a0_0, .int .i64 a0_1, .int .i64 a0_2, .int .i64 a0_3, .int .i64 a0_4, .slice A0_5 l0_5.length c0_5]] rfl gsA ?_; (with_reducible refine (circuit_look.calls k a0_0 a0_1 a0_2 a0_3 a0_4 _ _ l0_5 t152 t153 _ ?side1 ?side2 A2.out).mono ?_); (case side1 => repeat (first | exact (Kd.C_below HR0_5.out HB.out) | (with_reducible refine Kd.C_alloc ?_ _) | (with_reducible refine Kd.C_drewN ?_ _) | (with_reducible refine Kd.C_drew ?_))); (case side2 => exact HC0_5.out); rintro e w5 ⟨rfl, hb⟩; refine ⟨_, rfl, ?_⟩; have n0_ := Aside0.mk (blk_below (bkA BK151.out) hb); have n1_ := Aside0.mk (below_step (blA HB.out) hb); clear BK151; clear HB; have BK151 := n0_; have HB := n1_; clear n0_ n1_; (try clear hb)))
 go_ret
 exact ⟨by first | rfl | (simp [errW_none, errW_some] <;> rfl) | (simp [*, errW_none, errW_some] <;> rfl), blA HB.out⟩
-- NOT PRINTED: function 122 (slices_IndexFunc_uint64_uint64)
-- NOT PRINTED: function 95 (slices_ContainsFunc_uint64_uint64)
/-! ### witness_fits: function 65 -/
def witness_most0.f (a0 : Int) : Option (Int) := if 0 ≤ a0 ∧ a0 ≤ 5 then some (2 ^ (2 ^ a0.toNat : Nat) - 1) else none
set_option maxHeartbeats 8000000 in
set_option maxRecDepth 100000 in
theorem witness_most0.calls (a0 : Int) (r : Int) (w : World) (h : witness_most0.f a0 = some r) :
 Calls Try.prog 97 #[.int .i64 a0] w fun e w' => e = .returned (.int .u64 r) ∧ Drawn0 w w' := by
 unfold witness_most0.f at h
 by_cases hc : 0 ≤ a0 ∧ a0 ≤ 5
 ·rw [if_pos hc] at h
  obtain rfl := Option.some.inj h
  have hd : a0 = 0 ∨ a0 = 1 ∨ a0 = 2 ∨ a0 = 3 ∨ a0 = 4 ∨ a0 = 5 := by omega
  clear h hc
  rcases hd with rfl | rfl | rfl | rfl | rfl | rfl
  all_goals
   go_enter Try.func97, Try.ntmps97
   go_wp2
   repeat (go_quiet (fail); try go_wp2)
   go_ret
   exact ⟨rfl, dwA⟩
 ·rw [if_neg hc] at h; cases h
theorem any_take_succ (p : Int → Bool) (l : List Int) (x : Int) (h0 : 0 ≤ x) (h1 : x < l.length) (ha : (l.take x.toNat).any p = false) (hp : p (rd l x) = false) : (l.take (x + 1).toNat).any p = false := by
 have e : (x + 1).toNat = x.toNat + 1 := by omega
 have hlt : x.toNat < l.length := by omega
 have er : rd l x = l[x.toNat] := by simp [rd, List.getD_eq_getElem?_getD, hlt]
 rw [e, List.take_succ_eq_append_getElem hlt, List.any_append, ha, ← er]
 simp [hp]
theorem any_of_take (p : Int → Bool) (l : List Int) (x : Int) (h0 : 0 ≤ x) (h1 : x < l.length) (hp : p (rd l x) = true) : l.any p = true := by
 have hlt : x.toNat < l.length := by omega
 have er : rd l x = l[x.toNat] := by simp [rd, List.getD_eq_getElem?_getD, hlt]
 exact List.any_eq_true.mpr ⟨l[x.toNat], List.getElem_mem hlt, by rw [← er]; exact hp⟩
set_option maxHeartbeats 4000000 in
theorem indexU (lb : Array Value) (p : Int → Bool) (A : Option Addr) (c : Nat) (l : List Int) (w : World) (hr : Kd.C (Kd.int .u64) w A l.length l) (hn : l.length ≤ 1000000)
  (hp : ∀ (W : World) (x : Int), Below w.heap.size w W → Calls Try.prog 96 (#[.int .u64 x] ++ lb) W fun e w' => e = .returned (.bool (p x)) ∧ Below w.heap.size w w') :
  Calls Try.prog 122 #[.slice A l.length c, .func (.func 96) #[] lb] w fun e w' => ∃ r : Int, e = .returned (.int .i64 r) ∧ decide (0 ≤ r) = l.any p ∧ Below w.heap.size w w' := by
 have HR := Aside0.mk hr; clear hr
 have HP := Aside0.mk hp; clear hp
 have HN := Aside0.mk hn; clear hn
 go_enter Try.func122, Try.ntmps122
 go_wp2
 go_loopg [5, 8] l.length (fun gg _ s8 wr => ∃ x : Int, s8 = .int .i64 x ∧ Aside0 (0 ≤ x ∧ x ≤ l.length ∧ (l.length : Int) - x ≤ gg) ∧ Aside0 (Below w.heap.size w wr) ∧ Aside0 ((l.take x.toNat).any p = false))
 case atStart => exact ⟨0, rfl, ⟨by omega, by omega, by omega⟩, ⟨Below.refl _ w⟩, ⟨by simp⟩⟩
 case round =>
  obtain ⟨x, rfl, HX, HB, HA⟩ := hrel
  by_cases hlt : x < (l.length : Int)
  ·have d1 : decide (x < (l.length : Int)) = true := decide_eq_true hlt; have p0 : 0 ≤ x := HX.out.1; obtain ⟨ad, rfl, hx0⟩ := Kd.at_int HR.out x p0 hlt; have hx := clA HB.out hx0; have hcall := HP.out wr (rd l x) HB.out
   have hw : wrap64 (x + 1) = x + 1 := by have := HN.out; unfold wrap64; omega
   have qi : (x.toNat < l.length) = True := eq_true (by omega)
   have HL := Aside0.mk hlt; replace p0 := eq_true p0; replace hlt := eq_true hlt
   cases hq : p (rd l x) with
   | true =>
    rw [hq] at hcall
    go_wp2_with (go_at_call 96; refine hcall.mono ?_; rintro e w' ⟨rfl, hb'⟩)
    go_ret
    exact ⟨x, rfl, by rw [any_of_take p l x HX.out.1 HL.out hq]; exact decide_eq_true HX.out.1, hb'⟩
   | false =>
    rw [hq] at hcall
    go_wp2_with (go_at_call 96; refine hcall.mono ?_; rintro e w' ⟨rfl, hb'⟩)
    go_roundg (l.length - (x + 1).toNat)
    case measure => have := HX.out; have := HL.out; omega
    case rel => exact ⟨x + 1, by first | rfl | (simp [hw]; done) | trace_state, ⟨by have := HX.out; omega, by have := HL.out; omega, by have := HX.out; have := HL.out; omega⟩, ⟨hb'⟩, ⟨any_take_succ p l x HX.out.1 HL.out HA.out hq⟩⟩
  ·have d1 : decide (x < (l.length : Int)) = false := decide_eq_false hlt
   have HL := Aside0.mk hlt; clear hlt
   go_wp2
   go_ret
   exact ⟨-1, rfl, by have h := HA.out; rw [List.take_of_length_le (by have := HL.out; have := HX.out; omega)] at h; rw [h]; rfl, HB.out⟩
theorem containsU (lb : Array Value) (p : Int → Bool) (A : Option Addr) (c : Nat) (l : List Int) (w : World) (hr : Kd.C (Kd.int .u64) w A l.length l) (hn : l.length ≤ 1000000)
  (hp : ∀ (W : World) (x : Int), Below w.heap.size w W → Calls Try.prog 96 (#[.int .u64 x] ++ lb) W fun e w' => e = .returned (.bool (p x)) ∧ Below w.heap.size w w') :
  Calls Try.prog 95 #[.slice A l.length c, .func (.func 96) #[] lb] w fun e w' => e = .returned (.bool (l.any p)) ∧ Below w.heap.size w w' := by
 have hcon := indexU lb p A c l w hr hn hp
 go_enter Try.func95, Try.ntmps95
 go_wp2_with (go_at_call 122; refine hcon.mono ?_; rintro e w' ⟨r, rfl, hd, hb⟩)
 go_ret
 exact ⟨by rw [← hd]; rfl, hb⟩
/-- The closure of fits: is a word greater than the most? -/
theorem fitsPred (wide m : Int) (hm : witness_most0.f wide = some m) (B : Nat) (cs : Array Value) (w : World) (hB : w.heap[B]? = some (.cells cs 24 (0, 0))) (h0 : cs[0]? = some (.int .i64 wide)) :
  ∀ (W : World) (x : Int), Below w.heap.size w W → Calls Try.prog 96 (#[.int .u64 x] ++ #[.pointer (some ⟨B, 0, none⟩)]) W fun e w' => e = .returned (.bool (decide (m < x))) ∧ Below w.heap.size w w' := by
 intro W x hb
 have hlt : B < w.heap.size := blk_lt hB; have hc : W.cell? ⟨B, 0, none⟩ = some (.int .i64 wide) := (hb.cell (p := ⟨B, 0, none⟩) hlt).trans ((blk_cell hB 0).trans h0)
 show Calls Try.prog 96 #[.int .u64 x, .pointer (some ⟨B, 0, none⟩)] W _
 have hcon := fun W => witness_most0.calls wide m W hm
 have HB := Aside0.mk hb; clear hb
 have hu24 := Try.underlying24
 go_enter Try.func96, Try.ntmps96
 go_wp2_with (go_at_call 97; refine (hcon _).mono ?_; rintro e w' ⟨rfl, ⟨nd, rfl⟩⟩)
 go_ret
 exact ⟨rfl, blA HB.out⟩
def colLen (rows : Int) (l : List Int) : Bool := decide ((l.length : Int) = 2 ^ rows.toNat)
def colBig (m : Int) (l : List Int) : Bool := l.any (fun x => decide (m < x))
def fitsF (rows m : Int) (l1 : List (List Int)) (many : Int) : Int := if (l1.length : Int) ≠ many then 6 else if l1.all (colLen rows) = false then 6 else if l1.any (colBig m) = true then 5 else 0
def witness_fits.f (a0 a1 a2 a3 a4 : Int) (l0 : List S105) (l1 : List (List Int)) (many : Int) : Option Int :=
 if 0 ≤ a1 ∧ a1 ≤ 4 ∧ l1.length ≤ 1000000 then (witness_most0.f a0).bind fun m => some (fitsF a1 m l1 many) else none
theorem rdL4_eq (l : List (List Int)) (x : Int) (h0 : 0 ≤ x) (h1 : x < l.length) : ∃ h : x.toNat < l.length, rd_L4 l x = l[x.toNat] := by
 have hlt : x.toNat < l.length := by omega
 exact ⟨hlt, by simp [rd_L4, List.getD_eq_getElem?_getD, hlt]⟩
theorem take_succ_L4 (l : List (List Int)) (x : Int) (h0 : 0 ≤ x) (h1 : x < l.length) : l.take (x + 1).toNat = l.take x.toNat ++ [rd_L4 l x] := by
 obtain ⟨hlt, e⟩ := rdL4_eq l x h0 h1
 rw [e, show (x + 1).toNat = x.toNat + 1 from by omega, List.take_succ_eq_append_getElem hlt]
theorem mem_L4 (l : List (List Int)) (x : Int) (h0 : 0 ≤ x) (h1 : x < l.length) : rd_L4 l x ∈ l := by
 obtain ⟨hlt, e⟩ := rdL4_eq l x h0 h1
 rw [e]; exact List.getElem_mem hlt
set_option maxHeartbeats 8000000 in
set_option maxRecDepth 100000 in
theorem witness_fits.calls (a0 a1 a2 a3 a4 : Int) (A0 : Option Addr) (c0 : Nat) (l0 : List S105) (A1 : Option Addr) (c1 : Nat) (l1 : List (List Int)) (many : Int) (r : Int) (w : World) (hr0 : Kd.C k105 w A0 l0.length l0) (hc0 : l0.length ≤ c0) (hr1 : Kd.C (Kd.slice 43 (Kd.int .u64)) w A1 l1.length l1) (hc1 : l1.length ≤ c1) (h : witness_fits.f a0 a1 a2 a3 a4 l0 l1 many = some r) :
  Calls Try.prog 65 #[.agg #[.int .i64 a0, .int .i64 a1, .int .i64 a2, .int .i64 a3, .int .i64 a4, .slice A0 l0.length c0], .slice A1 l1.length c1, .int .i64 many] w fun e w' => e = .returned (.int .i64 r) ∧ Below w.heap.size w w' := by
 clear hr0 hc0
 unfold witness_fits.f at h
 by_cases hg : 0 ≤ a1 ∧ a1 ≤ 4 ∧ l1.length ≤ 1000000
 case neg => rw [if_neg hg] at h; cases h
 rw [if_pos hg] at h
 obtain ⟨m, hm, h⟩ := Option.bind_eq_some_iff.mp h; obtain rfl := Option.some.inj h; clear h
 obtain ⟨P, hP⟩ : ∃ P : Int, 2 ^ a1.toNat = P := ⟨_, rfl⟩
 have hPs : P = 1 ∨ P = 2 ∨ P = 4 ∨ P = 8 ∨ P = 16 := by
  have : a1 = 0 ∨ a1 = 1 ∨ a1 = 2 ∨ a1 = 3 ∨ a1 = 4 := by omega
  rcases this with rfl | rfl | rfl | rfl | rfl <;> simp_all
 have hPw : IntKind.i64.wrap P = P := by rcases hPs with rfl | rfl | rfl | rfl | rfl <;> rfl
 have s0 : 0 ≤ a1 := hg.1
 have s6 : a1 ≤ 64 := by omega
 have m6 : min a1.toNat 64 = a1.toNat := by omega
 have HN := Aside0.mk hg.2.2; have HP := Aside0.mk hP; have HPs := Aside0.mk hPs; have HM := Aside0.mk hm; clear hg hm hPs; have HR := Aside0.mk hr1; clear hr1; have HB := Aside0.mk (Below.refl w.heap.size w); have hu24 := Try.underlying24
 by_cases c1' : (l1.length : Int) = many
 case neg =>
  have d1 : ((l1.length : Int) != many) = true := bne_iff_ne.mpr c1'
  go_enter Try.func65, Try.ntmps65
  go_wp2_with (first | ((with_reducible refine gate_dst (N := 3) rfl ?_); refine box_event ?hg (N := 3) ?hd (cs := #[.int .i64 a0, .int .i64 a1, .int .i64 a2, .int .i64 a3, .int .i64 a4, .slice A0 l0.length c0]) (t := 24) ?hr ?_; (case hd => rfl); (case hg => rfl); (case hr => first | (go_simp; done) | (go_simp; rfl)); intro gb hg w4 hbox hb; replace HB := Aside0.mk (below_step (blA HB.out) hb); have BK := Aside0.mk hbox; clear hb hbox hg))
  go_ret
  exact ⟨by unfold fitsF; rw [if_pos c1']; rfl, blA HB.out⟩
 subst c1'; have d1 : ((l1.length : Int) != (l1.length : Int)) = false := bne_eq_false_iff_eq.mpr rfl
 go_enter Try.func65, Try.ntmps65
 go_wp2_with (first | ((with_reducible refine gate_dst (N := 3) rfl ?_); refine box_event ?hg (N := 3) ?hd (cs := #[.int .i64 a0, .int .i64 a1, .int .i64 a2, .int .i64 a3, .int .i64 a4, .slice A0 l0.length c0]) (t := 24) ?hr ?_; (case hd => rfl); (case hg => rfl); (case hr => first | (go_simp; done) | (go_simp; rfl)); intro gb hg w4 hbox hb; replace HB := Aside0.mk (below_step (blA HB.out) hb); have BK := Aside0.mk hbox; clear hb hbox hg))
 go_loopg [17] l1.length (fun gg s17 wr => ∃ x : Int, s17 = .int .i64 x ∧ Aside0 (0 ≤ x ∧ x ≤ l1.length ∧ (l1.length : Int) - x ≤ gg) ∧ Aside0 (wr.heap[gb]? = some (.cells #[.int .i64 a0, .int .i64 a1, .int .i64 a2, .int .i64 a3, .int .i64 a4, .slice A0 l0.length c0] 24 (0, 0))) ∧ Aside0 (Below w.heap.size w wr) ∧ Aside0 ((l1.take x.toNat).all (colLen a1) = true))
 case atStart => exact ⟨0, rfl, ⟨by omega, by omega, by omega⟩, ⟨bkA BK.out⟩, ⟨blA HB.out⟩, ⟨by simp⟩⟩
 case round =>
  clear HB BK; obtain ⟨x, rfl, HX, BK, HB, HA⟩ := hrel
  by_cases hlt : x < (l1.length : Int)
  ·have d2 : decide (x < (l1.length : Int)) = true := decide_eq_true hlt; have p0 : 0 ≤ x := HX.out.1; obtain ⟨ad, A2, c2, rfl, hx0, hc2, hC⟩ := at_L4 HR.out x p0 hlt; have hx := clA HB.out hx0
   have hw : wrap64 (x + 1) = x + 1 := by have := HN.out; unfold wrap64; omega
   have qi : (x.toNat < l1.length) = True := eq_true (by omega)
   have HL := Aside0.mk hlt; have HC2 := Aside0.mk hC; clear hC hx0
   have hcz := fun i => blk_cell BK.out i
   have hfz := fun i => blk_frozen BK.out i
   replace p0 := eq_true p0; replace hlt := eq_true hlt
   by_cases hq : ((rd_L4 l1 x).length : Int) = P
   ·have d3 : (((rd_L4 l1 x).length : Int) != P) = false := bne_eq_false_iff_eq.mpr hq
    have HQ := Aside0.mk hq; clear hq
    go_wp2
    go_roundg (l1.length - (x + 1).toNat)
    case measure => have := HX.out; have := HL.out; omega
    case rel => exact ⟨x + 1, by first | rfl | (simp [hw]; done), ⟨by have := HX.out; omega, by have := HL.out; omega, by have := HX.out; have := HL.out; omega⟩, ⟨bkA BK.out⟩, ⟨blA HB.out⟩, ⟨by
     rw [take_succ_L4 l1 x HX.out.1 HL.out, List.all_append, HA.out]
     simp [colLen, HQ.out, HP.out]⟩⟩
   ·have d3 : (((rd_L4 l1 x).length : Int) != P) = true := bne_iff_ne.mpr hq
    have HQ := Aside0.mk hq; clear hq
    go_wp2
    go_ret
    refine ⟨?_, blA HB.out⟩
    have hf : l1.all (colLen a1) = false := by
     rw [List.all_eq_false]
     exact ⟨_, mem_L4 l1 x HX.out.1 HL.out, by simp [colLen, HP.out, HQ.out]⟩
    unfold fitsF
    rw [if_neg (fun h => h rfl), if_pos hf]
    rfl
  ·have d2 : decide (x < (l1.length : Int)) = false := decide_eq_false hlt
   have HA' : Aside0 (l1.all (colLen a1) = true) := ⟨by have h := HA.out; rwa [List.take_of_length_le (by have := HX.out; omega)] at h⟩
   clear HA; have HX1 := HX
   go_wp2
   go_loopg [30] l1.length (fun gg s30 wr2 => ∃ x2 : Int, s30 = .int .i64 x2 ∧ Aside0 (0 ≤ x2 ∧ x2 ≤ l1.length ∧ (l1.length : Int) - x2 ≤ gg) ∧ Aside0 (wr2.heap[gb]? = some (.cells #[.int .i64 a0, .int .i64 a1, .int .i64 a2, .int .i64 a3, .int .i64 a4, .slice A0 l0.length c0] 24 (0, 0))) ∧ Aside0 (Below w.heap.size w wr2) ∧ Aside0 ((l1.take x2.toNat).any (colBig m) = false))
   case atStart => exact ⟨0, rfl, ⟨by omega, by omega, by omega⟩, ⟨bkA BK.out⟩, ⟨blA HB.out⟩, ⟨by simp⟩⟩
   case round =>
    clear HB BK HX; clear d2; obtain ⟨x2, rfl, HX, BK, HB, HA⟩ := hrel
    by_cases hlt2 : x2 < (l1.length : Int)
    ·have d2 : decide (x2 < (l1.length : Int)) = true := decide_eq_true hlt2; have p0 : 0 ≤ x2 := HX.out.1; obtain ⟨ad, A2, c2, rfl, hx0, hc2, hC⟩ := at_L4 HR.out x2 p0 hlt2; have hx := clA HB.out hx0
     have hw : wrap64 (x2 + 1) = x2 + 1 := by have := HN.out; unfold wrap64; omega
     have qi : (x2.toNat < l1.length) = True := eq_true (by omega)
     have HL := Aside0.mk hlt2; have hmem := mem_L4 l1 x2 HX.out.1 HL.out
     have hlen : (rd_L4 l1 x2).length ≤ 1000000 := by
      have h1 := List.all_eq_true.mp HA'.out _ hmem
      have h2 : ((rd_L4 l1 x2).length : Int) = P := by rw [← HP.out]; exact of_decide_eq_true h1
      rcases HPs.out with h | h | h | h | h <;> omega
     have hcon := containsU #[.pointer (some ⟨gb, 0, none⟩)] (fun y => decide (m < y)) A2 c2 (rd_L4 l1 x2) wr (Kd.C_below hC HB.out) hlen (fitsPred a0 m HM.out gb _ wr BK.out rfl)
     have HM' := Aside0.mk hmem; clear hC hx0 hmem hlen
     have hcz := fun i => blk_cell BK.out i
     have hfz := fun i => blk_frozen BK.out i
     replace p0 := eq_true p0; replace hlt2 := eq_true hlt2
     have e1 : (rd_L4 l1 x2).any (fun y => decide (m < y)) = colBig m (rd_L4 l1 x2) := rfl
     rw [e1] at hcon
     cases hq : colBig m (rd_L4 l1 x2) with
     | true =>
      rw [hq] at hcon
      go_wp2_with (go_at_call 95; refine hcon.mono ?_; rintro e w' ⟨rfl, hb⟩)
      go_ret
      refine ⟨?_, below_step (blA HB.out) hb⟩
      have hf : l1.any (colBig m) = true := List.any_eq_true.mpr ⟨_, HM'.out, hq⟩
      unfold fitsF
      rw [if_neg (fun h => h rfl), if_neg (by rw [HA'.out]; decide), if_pos hf]
      rfl
     | false =>
      rw [hq] at hcon
      go_wp2_with (go_at_call 95; refine hcon.mono ?_; rintro e w' ⟨rfl, hb⟩)
      go_roundg (l1.length - (x2 + 1).toNat)
      case measure => have := HX.out; have := HL.out; omega
      case rel => exact ⟨x2 + 1, by first | rfl | (simp [hw]; done), ⟨by have := HX.out; omega, by have := HL.out; omega, by have := HX.out; have := HL.out; omega⟩, ⟨blk_below BK.out hb⟩, ⟨below_step (blA HB.out) hb⟩, ⟨by
       rw [take_succ_L4 l1 x2 HX.out.1 HL.out, List.any_append, HA.out]
       simp [hq]⟩⟩
    ·have d2 : decide (x2 < (l1.length : Int)) = false := decide_eq_false hlt2
     have HA2 : Aside0 (l1.any (colBig m) = false) := ⟨by have h := HA.out; rwa [List.take_of_length_le (by have := HX.out; omega)] at h⟩
     clear HA
     go_wp2
     go_ret
     refine ⟨?_, blA HB.out⟩
     unfold fitsF
     rw [if_neg (fun h => h rfl), if_neg (by rw [HA'.out]; decide), if_neg (by rw [HA2.out]; decide)]
     rfl
end Go.Proofs.Ythiiodgpdoljoaa.PLw
namespace Go.Proofs.Ythiiodgpdoljoaa.PLw
open Go.RowKit Go.Proofs.YthiiodgpdoljoaaW.PrintWords Go.Proofs.YthiiodgpdoljoaaW.PrintLast Go.Proofs.YthiiodgpdoljoaaW.PrintMore
attribute [local go_sem] max2_int min2_int max_two min_two max_three min_three max_four min_four   -- for this text's walks alone
set_option linter.unusedVariables false
set_option linter.unusedSimpArgs false
/-! ### witness_Run: function 28 -/
mutual
def witness_Run.l0 : Nat → List (List Int) → List (List Int) → Int → Int → Int → Int → Int → Int → Int → List (S105) → Option ((List (List Int)) × Int)
 | 0, _, _, _, _, _, _, _, _, _, _ => none
 | k + 1, x8, x34, x35, x36, x166000, x166001, x166002, x166003, x166004, x166005 => if x36 < x35 then (if 0 ≤ x36 then (if x36 < (x34.length : Int) then ((slices_Clone_uint64_uint64.f (rd_L4 x34 x36)).bind fun t169 => (if x8.length < 5864062014805 then (witness_Run.l0 k (x8 ++ [t169]) x34 x35 (wrap64 (x36 + 1)) x166000 x166001 x166002 x166003 x166004 x166005) else (none))) else (none)) else (none)) else (witness_Run.l1 k x8 x166005 (x166005.length : Int) 0 x166000 x166001 x166002 x166003 x166004 x166005)
def witness_Run.l1 : Nat → List (List Int) → List (S105) → Int → Int → Int → Int → Int → Int → Int → List (S105) → Option ((List (List Int)) × Int)
 | 0, _, _, _, _, _, _, _, _, _, _ => none
 | k + 1, x8, x47, x48, x49, x166000, x166001, x166002, x166003, x166004, x166005 => if x49 < x48 then (if 0 ≤ x49 then (if x49 < (x47.length : Int) then (if ((rd_T105 x47 x49).f0) = 8 then (if 0 ≤ ((rd_T105 x47 x49).f2) then (if ((rd_T105 x47 x49).f2) < (x8.length : Int) then (if 0 ≤ ((rd_T105 x47 x49).f3) then (if ((rd_T105 x47 x49).f3) < (x8.length : Int) then ((slices_Equal_uint64_uint64.f k (rd_L4 x8 ((rd_T105 x47 x49).f2)) (rd_L4 x8 ((rd_T105 x47 x49).f3))).bind fun t179 => (if t179 = true then (witness_Run.l1 k x8 x47 x48 (wrap64 (x49 + 1)) x166000 x166001 x166002 x166003 x166004 x166005) else (some (([] : List (List Int)), 7)))) else (none)) else (none)) else (none)) else (none)) else (if 0 ≤ x166001 then (witness_Run.l2 k x8 ([] : List Int) ([] : List Int) x47 x48 x49 (shl .i64 1 x166001) 0 x166000 x166001 x166002 x166003 x166004 x166005 ((rd_T105 x47 x49).f0) ((rd_T105 x47 x49).f1) ((rd_T105 x47 x49).f2) ((rd_T105 x47 x49).f3) ((rd_T105 x47 x49).f4)) else (none))) else (none)) else (none)) else (witness_Run.l3 k x8 x166000 x166001 x166002 x166003 x166004 x166005)
def witness_Run.l2 : Nat → List (List Int) → List Int → List Int → List (S105) → Int → Int → Int → Int → Int → Int → Int → Int → Int → List (S105) → Int → Int → Int → Int → Int → Option ((List (List Int)) × Int)
 | 0, _, _, _, _, _, _, _, _, _, _, _, _, _, _, _, _, _, _, _ => none
 | k + 1, x8, x13, x14, x47, x48, x49, x70, x71, x166000, x166001, x166002, x166003, x166004, x166005, x177000, x177001, x177002, x177003, x177004 => if x71 < x70 then (if 0 ≤ x177002 then (if x177002 < (x8.length : Int) then (if 0 ≤ x71 then (if x71 < ((rd_L4 x8 x177002).length : Int) then (if 0 ≤ x177003 then (if x177003 < (x8.length : Int) then (if x71 < ((rd_L4 x8 x177003).length : Int) then ((witness_made.f x166000 x166001 x166002 x166003 x166004 x166005 x177000 x177001 x177002 x177003 x177004 (rd (rd_L4 x8 x177002) x71) (rd (rd_L4 x8 x177003) x71)).bind fun bt184 => (if x13.length < 17592186044416 then (if x14.length < 17592186044416 then (witness_Run.l2 k x8 (x13 ++ [bt184.1]) (x14 ++ [bt184.2]) x47 x48 x49 x70 (wrap64 (x71 + 1)) x166000 x166001 x166002 x166003 x166004 x166005 x177000 x177001 x177002 x177003 x177004) else (none)) else (none))) else (none)) else (none)) else (none)) else (none)) else (none)) else (none)) else (none)) else (if x8.length < 5864062014805 then ((some (x8 ++ [x13] : List (List Int))).bind fun y192 => (if x177000 = 7 then (if y192.length < 5864062014805 then (witness_Run.l1 k (y192 ++ [x14]) x47 x48 (wrap64 (x49 + 1)) x166000 x166001 x166002 x166003 x166004 x166005) else (none)) else (witness_Run.l1 k y192 x47 x48 (wrap64 (x49 + 1)) x166000 x166001 x166002 x166003 x166004 x166005))) else (none))
def witness_Run.l3 : Nat → List (List Int) → Int → Int → Int → Int → Int → List (S105) → Option ((List (List Int)) × Int)
 | 0, _, _, _, _, _, _, _ => none
 | k + 1, x8, x166000, x166001, x166002, x166003, x166004, x166005 => if 0 ≤ x166002 then (if (x8.length : Int) < (shl .i64 1 x166002) then (if 0 ≤ x166001 then (if 0 ≤ (shl .i64 1 x166001) then (if (shl .i64 1 x166001 : Int).toNat ≤ 35184372088832 then (if x8.length < 5864062014805 then (witness_Run.l3 k (x8 ++ [(List.replicate (shl .i64 1 x166001 : Int).toNat 0)]) x166000 x166001 x166002 x166003 x166004 x166005) else (none)) else (none)) else (none)) else (none)) else (some (x8, 0))) else (none)
end
def witness_Run.f (k : Nat) (a0_0 : Int) (a0_1 : Int) (a0_2 : Int) (a0_3 : Int) (a0_4 : Int) (l0_5 : List (S105)) (l1 : List (List Int)) : Option ((List (List Int)) × Int) := (circuit_Check.f k a0_0 a0_1 a0_2 a0_3 a0_4 l0_5).bind fun t166 => (if t166 = 0 then ((witness_fits.f a0_0 a0_1 a0_2 a0_3 a0_4 l0_5 l1 (wrap64 (a0_3 + a0_4))).bind fun t167 => (if t167 = 0 then (witness_Run.l0 k ([] : List (List Int)) l1 (l1.length : Int) 0 a0_0 a0_1 a0_2 a0_3 a0_4 l0_5) else (some (([] : List (List Int)), t167)))) else (some (([] : List (List Int)), t166)))
theorem witness_Run.mono_l : ∀ k, (∀ y0 y1 y2 y3 y4 y5 y6 y7 y8 y9, LeO (witness_Run.l0 k y0 y1 y2 y3 y4 y5 y6 y7 y8 y9) (witness_Run.l0 (k + 1) y0 y1 y2 y3 y4 y5 y6 y7 y8 y9)) ∧ (∀ y0 y1 y2 y3 y4 y5 y6 y7 y8 y9, LeO (witness_Run.l1 k y0 y1 y2 y3 y4 y5 y6 y7 y8 y9) (witness_Run.l1 (k + 1) y0 y1 y2 y3 y4 y5 y6 y7 y8 y9)) ∧ (∀ y0 y1 y2 y3 y4 y5 y6 y7 y8 y9 y10 y11 y12 y13 y14 y15 y16 y17 y18, LeO (witness_Run.l2 k y0 y1 y2 y3 y4 y5 y6 y7 y8 y9 y10 y11 y12 y13 y14 y15 y16 y17 y18) (witness_Run.l2 (k + 1) y0 y1 y2 y3 y4 y5 y6 y7 y8 y9 y10 y11 y12 y13 y14 y15 y16 y17 y18)) ∧ (∀ y0 y1 y2 y3 y4 y5 y6, LeO (witness_Run.l3 k y0 y1 y2 y3 y4 y5 y6) (witness_Run.l3 (k + 1) y0 y1 y2 y3 y4 y5 y6))
 | 0 => ⟨fun _ _ _ _ _ _ _ _ _ _ r h => by simp [witness_Run.l0] at h, fun _ _ _ _ _ _ _ _ _ _ r h => by simp [witness_Run.l1] at h, fun _ _ _ _ _ _ _ _ _ _ _ _ _ _ _ _ _ _ _ r h => by simp [witness_Run.l2] at h, fun _ _ _ _ _ _ _ r h => by simp [witness_Run.l3] at h⟩
 | k + 1 => by
  obtain ⟨ih0, ih1, ih2, ih3⟩ := witness_Run.mono_l k
  refine ⟨?_, ?_, ?_, ?_⟩
  ·intro y0 y1 y2 y3 y4 y5 y6 y7 y8 y9
   unfold witness_Run.l0
   repeat' first
   | (with_reducible exact ih0 _ _ _ _ _ _ _ _ _ _)
   | (with_reducible exact ih1 _ _ _ _ _ _ _ _ _ _)
   | (with_reducible exact ih2 _ _ _ _ _ _ _ _ _ _ _ _ _ _ _ _ _ _ _)
   | (with_reducible exact ih3 _ _ _ _ _ _ _)
   | (with_reducible exact circuit_Check.mono _ _ _ _ _ _ _)
   | (with_reducible exact slices_Equal_uint64_uint64.mono _ _ _)
   | (with_reducible exact LeO.refl _)
   | (with_reducible exact LeO.none _)
   | (with_reducible refine LeO.ite ?_ ?_)
   | (with_reducible refine LeO.bind ?_ (fun _ => ?_))
   | exact ih0 _ _ _ _ _ _ _ _ _ _
   | exact ih1 _ _ _ _ _ _ _ _ _ _
   | exact ih2 _ _ _ _ _ _ _ _ _ _ _ _ _ _ _ _ _ _ _
   | exact ih3 _ _ _ _ _ _ _
   | exact circuit_Check.mono _ _ _ _ _ _ _
   | exact slices_Equal_uint64_uint64.mono _ _ _
   | exact LeO.none _
   | refine LeO.ite ?_ ?_
   | refine LeO.bind ?_ (fun _ => ?_)
  ·intro y0 y1 y2 y3 y4 y5 y6 y7 y8 y9
   unfold witness_Run.l1
   repeat' first
   | (with_reducible exact ih0 _ _ _ _ _ _ _ _ _ _)
   | (with_reducible exact ih1 _ _ _ _ _ _ _ _ _ _)
   | (with_reducible exact ih2 _ _ _ _ _ _ _ _ _ _ _ _ _ _ _ _ _ _ _)
   | (with_reducible exact ih3 _ _ _ _ _ _ _)
   | (with_reducible exact circuit_Check.mono _ _ _ _ _ _ _)
   | (with_reducible exact slices_Equal_uint64_uint64.mono _ _ _)
   | (with_reducible exact LeO.refl _)
   | (with_reducible exact LeO.none _)
   | (with_reducible refine LeO.ite ?_ ?_)
   | (with_reducible refine LeO.bind ?_ (fun _ => ?_))
   | exact ih0 _ _ _ _ _ _ _ _ _ _
   | exact ih1 _ _ _ _ _ _ _ _ _ _
   | exact ih2 _ _ _ _ _ _ _ _ _ _ _ _ _ _ _ _ _ _ _
   | exact ih3 _ _ _ _ _ _ _
   | exact circuit_Check.mono _ _ _ _ _ _ _
   | exact slices_Equal_uint64_uint64.mono _ _ _
   | exact LeO.none _
   | refine LeO.ite ?_ ?_
   | refine LeO.bind ?_ (fun _ => ?_)
  ·intro y0 y1 y2 y3 y4 y5 y6 y7 y8 y9 y10 y11 y12 y13 y14 y15 y16 y17 y18
   unfold witness_Run.l2
   repeat' first
   | (with_reducible exact ih0 _ _ _ _ _ _ _ _ _ _)
   | (with_reducible exact ih1 _ _ _ _ _ _ _ _ _ _)
   | (with_reducible exact ih2 _ _ _ _ _ _ _ _ _ _ _ _ _ _ _ _ _ _ _)
   | (with_reducible exact ih3 _ _ _ _ _ _ _)
   | (with_reducible exact circuit_Check.mono _ _ _ _ _ _ _)
   | (with_reducible exact slices_Equal_uint64_uint64.mono _ _ _)
   | (with_reducible exact LeO.refl _)
   | (with_reducible exact LeO.none _)
   | (with_reducible refine LeO.ite ?_ ?_)
   | (with_reducible refine LeO.bind ?_ (fun _ => ?_))
   | exact ih0 _ _ _ _ _ _ _ _ _ _
   | exact ih1 _ _ _ _ _ _ _ _ _ _
   | exact ih2 _ _ _ _ _ _ _ _ _ _ _ _ _ _ _ _ _ _ _
   | exact ih3 _ _ _ _ _ _ _
   | exact circuit_Check.mono _ _ _ _ _ _ _
   | exact slices_Equal_uint64_uint64.mono _ _ _
   | exact LeO.none _
   | refine LeO.ite ?_ ?_
   | refine LeO.bind ?_ (fun _ => ?_)
  ·intro y0 y1 y2 y3 y4 y5 y6
   unfold witness_Run.l3
   repeat' first
   | (with_reducible exact ih0 _ _ _ _ _ _ _ _ _ _)
   | (with_reducible exact ih1 _ _ _ _ _ _ _ _ _ _)
   | (with_reducible exact ih2 _ _ _ _ _ _ _ _ _ _ _ _ _ _ _ _ _ _ _)
   | (with_reducible exact ih3 _ _ _ _ _ _ _)
   | (with_reducible exact circuit_Check.mono _ _ _ _ _ _ _)
   | (with_reducible exact slices_Equal_uint64_uint64.mono _ _ _)
   | (with_reducible exact LeO.refl _)
   | (with_reducible exact LeO.none _)
   | (with_reducible refine LeO.ite ?_ ?_)
   | (with_reducible refine LeO.bind ?_ (fun _ => ?_))
   | exact ih0 _ _ _ _ _ _ _ _ _ _
   | exact ih1 _ _ _ _ _ _ _ _ _ _
   | exact ih2 _ _ _ _ _ _ _ _ _ _ _ _ _ _ _ _ _ _ _
   | exact ih3 _ _ _ _ _ _ _
   | exact circuit_Check.mono _ _ _ _ _ _ _
   | exact slices_Equal_uint64_uint64.mono _ _ _
   | exact LeO.none _
   | refine LeO.ite ?_ ?_
   | refine LeO.bind ?_ (fun _ => ?_)
theorem witness_Run.mono : ∀ a0 a1 a2 a3 a4 a5 a6 k, LeO (witness_Run.f k a0 a1 a2 a3 a4 a5 a6) (witness_Run.f (k + 1) a0 a1 a2 a3 a4 a5 a6) := by
 intro a0 a1 a2 a3 a4 a5 a6 k
 obtain ⟨ih0, ih1, ih2, ih3⟩ := witness_Run.mono_l k
 unfold witness_Run.f
 repeat' first
   | (with_reducible exact ih0 _ _ _ _ _ _ _ _ _ _)
   | (with_reducible exact ih1 _ _ _ _ _ _ _ _ _ _)
   | (with_reducible exact ih2 _ _ _ _ _ _ _ _ _ _ _ _ _ _ _ _ _ _ _)
   | (with_reducible exact ih3 _ _ _ _ _ _ _)
   | (with_reducible exact circuit_Check.mono _ _ _ _ _ _ _)
   | (with_reducible exact slices_Equal_uint64_uint64.mono _ _ _)
   | (with_reducible exact LeO.refl _)
   | (with_reducible exact LeO.none _)
   | (with_reducible refine LeO.ite ?_ ?_)
   | (with_reducible refine LeO.bind ?_ (fun _ => ?_))
   | exact ih0 _ _ _ _ _ _ _ _ _ _
   | exact ih1 _ _ _ _ _ _ _ _ _ _
   | exact ih2 _ _ _ _ _ _ _ _ _ _ _ _ _ _ _ _ _ _ _
   | exact ih3 _ _ _ _ _ _ _
   | exact circuit_Check.mono _ _ _ _ _ _ _
   | exact slices_Equal_uint64_uint64.mono _ _ _
   | exact LeO.none _
   | refine LeO.ite ?_ ?_
   | refine LeO.bind ?_ (fun _ => ?_)
def witness_Run.T17 : Bool × List (List Nat × List Nat) := (true, [([], []), ([], []), ([1], [1]), ([0, 2], [0, 2]), ([3], [3]), ([], []), ([], []), ([6], [6]), ([5, 7], [5, 7]), ([8], [8]), ([4, 9], [4, 9]), ([10], [10])])
def witness_Run.B17 : List Nat := [0, 0, 2, 7, 15, 0, 0, 64, 224, 480, 1023, 2047]
theorem witness_Run.tab17 : rtab .any (opsOf Try.f28 17) = witness_Run.T17 := by kernel_rfl
theorem witness_Run.bits17 : waitsOk witness_Run.T17.2 witness_Run.B17 = true := by kernel_rfl
def witness_Run.T23 : Bool × List (List Nat × List Nat) := (true, [([], []), ([], []), ([], []), ([], []), ([3], [3]), ([2, 4], [2, 4]), ([5], [5]), ([], []), ([6, 7], [6, 7]), ([8], [8]), ([], []), ([], []), ([11], [11]), ([10, 12], [10, 12]), ([13], [13]), ([], []), ([14, 15], [14, 15]), ([16], [16]), ([0, 1, 9, 17], [0, 1, 9, 17]), ([18], [18]), ([19], [19]), ([19], [19]), ([20, 18, 0, 1, 2, 3, 4, 5, 6, 7, 8, 9, 10, 11, 12, 13, 14, 15, 16, 17, 18, 19, 20], [20]), ([21, 22, 0, 1, 2, 3, 4, 5, 6, 7, 8, 9, 10, 11, 12, 13, 14, 15, 16, 17, 18, 19, 20, 21, 22], [21])])
def witness_Run.B23 : List Nat := [0, 0, 0, 0, 8, 28, 60, 0, 252, 508, 0, 0, 2048, 7168, 15360, 0, 64512, 130048, 262143, 524287, 1048575, 1048575, 2097151, 8388607]
theorem witness_Run.tab23 : rtab .any (opsOf Try.f28 23) = witness_Run.T23 := by kernel_rfl
theorem witness_Run.bits23 : waitsOk witness_Run.T23.2 witness_Run.B23 = true := by kernel_rfl
set_option maxHeartbeats 8000000 in
set_option maxRecDepth 100000 in
theorem witness_Run.calls (k : Nat) (a0_0 : Int) (a0_1 : Int) (a0_2 : Int) (a0_3 : Int) (a0_4 : Int) (A0_5 : Option Addr) (c0_5 : Nat) (l0_5 : List (S105)) (A1 : Option Addr) (c1 : Nat) (l1 : List (List Int)) (r1 : List (List Int)) (r2 : Int) (w : World) (hr0_5 : Kd.C k105 w A0_5 l0_5.length l0_5) (hc0_5 : l0_5.length ≤ c0_5) (hr1 : Kd.C (Kd.slice 43 (Kd.int .u64)) w A1 l1.length l1) (hc1 : l1.length ≤ c1) (h : witness_Run.f k a0_0 a0_1 a0_2 a0_3 a0_4 l0_5 l1 = some (r1, r2)) :
  Calls Try.prog 28 #[.agg #[.int .i64 a0_0, .int .i64 a0_1, .int .i64 a0_2, .int .i64 a0_3, .int .i64 a0_4, .slice A0_5 l0_5.length c0_5], .slice A1 l1.length c1] w fun e w' => ∃ v0_ : Value, e = .returned (.tuple #[v0_, .int .i64 r2]) ∧ Kd.S (Kd.slice 43 (Kd.int .u64)) 68 w' w.heap.size (fun _ => True) v0_ r1 ∧ Below w.heap.size w w' := by
 have hu24 := Try.underlying24; have hu105 := Try.underlying105; have HR0_5 := Aside0.mk hr0_5; have HC0_5 := Aside0.mk hc0_5; clear hr0_5 hc0_5; have HR1 := Aside0.mk hr1; have HC1 := Aside0.mk hc1; clear hr1 hc1; have HB := Aside0.mk (Below.refl w.heap.size w)
 have H : ((circuit_Check.f k a0_0 a0_1 a0_2 a0_3 a0_4 l0_5).bind fun t166 => (if t166 = 0 then ((witness_fits.f a0_0 a0_1 a0_2 a0_3 a0_4 l0_5 l1 (wrap64 (a0_3 + a0_4))).bind fun t167 => (if t167 = 0 then (witness_Run.l0 k ([] : List (List Int)) l1 (l1.length : Int) 0 a0_0 a0_1 a0_2 a0_3 a0_4 l0_5) else (some (([] : List (List Int)), t167)))) else (some (([] : List (List Int)), t166)))) = some (r1, r2) := h
 clear h; replace H := Option.bind_eq_some_iff.mp H; obtain ⟨t166, A30, H⟩ := H
 replace H : (if t166 = 0 then ((witness_fits.f a0_0 a0_1 a0_2 a0_3 a0_4 l0_5 l1 (wrap64 (a0_3 + a0_4))).bind fun t167 => (if t167 = 0 then (witness_Run.l0 k ([] : List (List Int)) l1 (l1.length : Int) 0 a0_0 a0_1 a0_2 a0_3 a0_4 l0_5) else (some (([] : List (List Int)), t167)))) else (some (([] : List (List Int)), t166))) = some (r1, r2) := H
 have A3 := Aside0.mk A30; clear A30
 by_cases c4 : t166 = 0
 ·rw [if_pos c4] at H
  have c4b0 : (t166 == 0) = true := beq_iff_eq.mpr c4; have c4b1 : (t166 != 0) = false := bne_eq_false_iff_eq.mpr c4; clear c4; replace H := Option.bind_eq_some_iff.mp H; obtain ⟨t167, A50, H⟩ := H
  replace H : (if t167 = 0 then (witness_Run.l0 k ([] : List (List Int)) l1 (l1.length : Int) 0 a0_0 a0_1 a0_2 a0_3 a0_4 l0_5) else (some (([] : List (List Int)), t167))) = some (r1, r2) := H
  have A5 := Aside0.mk A50; clear A50
  by_cases c6 : t167 = 0
  ·rw [if_pos c6] at H
   have c6b0 : (t167 == 0) = true := beq_iff_eq.mpr c6; have c6b1 : (t167 != 0) = false := bne_eq_false_iff_eq.mpr c6; clear c6; have H' := Aside0.mk H; clear H
   go_enter Try.func28, Try.ntmps28
   go_wp2_with (first | ((with_reducible refine gate_dst (N := 2) rfl ?_); refine box_event ?hg (N := 2) ?hd (cs := #[.int .i64 a0_0, .int .i64 a0_1, .int .i64 a0_2, .int .i64 a0_3, .int .i64 a0_4, .slice A0_5 l0_5.length c0_5]) (t := 24) ?hr ?_; (case hd => rfl); (case hg => rfl); (case hr => first | (go_simp; done) | (go_simp; rfl)); intro gb165 hg w7 hbox hb; have n0_ := Aside0.mk (below_step (blA HB.out) hb); have n1_ := Aside0.mk (hbox); have n2_ := Aside0.mk ((by rw [hg]; exact (below_size (blA HB.out)) : w.heap.size ≤ gb165)); have n3_ := Aside0.mk ((by rw [hg]; exact (below_size (blA HB.out)) : w.heap.size ≤ gb165)); clear HB; have HB := n0_; have BK165 := n1_; have GW165 := n2_; have GE165 := n3_; clear n0_ n1_ n2_ n3_; clear hb hbox hg; have hcz8 := fun i => blk_cell BK165.out i; have hfz8 := fun i => blk_frozen BK165.out i; ) | ((with_reducible refine gate_callee (f := 21) rfl ?_); refine goesL_ (some 19) rfl rfl Try.func21 (by kernel_rfl) rfl #[.agg #[.int .i64 a0_0, .int .i64 a0_1, .int .i64 a0_2, .int .i64 a0_3, .int .i64 a0_4, .slice A0_5 l0_5.length c0_5]] rfl gsA ?_; (with_reducible refine (circuit_Check.calls k a0_0 a0_1 a0_2 a0_3 a0_4 _ _ l0_5 t166 _ ?side1 ?side2 A3.out).mono ?_); (case side1 => repeat (first | exact (Kd.C_below HR0_5.out HB.out) | (with_reducible refine Kd.C_alloc ?_ _) | (with_reducible refine Kd.C_drewN ?_ _) | (with_reducible refine Kd.C_drew ?_))); (case side2 => exact HC0_5.out); rintro e w9 ⟨rfl, hb⟩; refine ⟨_, rfl, ?_⟩; have n0_ := Aside0.mk (blk_below (bkA BK165.out) hb); have n1_ := Aside0.mk (below_step (blA HB.out) hb); clear BK165; clear HB; have BK165 := n0_; have HB := n1_; clear n0_ n1_; (try clear hb); have hcz10 := fun i => blk_cell BK165.out i; have hfz10 := fun i => blk_frozen BK165.out i; ) | ((with_reducible refine gate_callee (f := 65) rfl ?_); refine goesL_ (some 30) rfl rfl Try.func65 (by kernel_rfl) rfl #[.agg #[.int .i64 a0_0, .int .i64 a0_1, .int .i64 a0_2, .int .i64 a0_3, .int .i64 a0_4, .slice A0_5 l0_5.length c0_5], .slice A1 l1.length c1, .int .i64 (wrap64 (a0_3 + a0_4))] rfl gsA ?_; (with_reducible refine (witness_fits.calls a0_0 a0_1 a0_2 a0_3 a0_4 _ _ l0_5 _ _ l1 (wrap64 (a0_3 + a0_4)) t167 _ ?side1 ?side2 ?side3 ?side4 A5.out).mono ?_); (case side1 => repeat (first | exact (Kd.C_below HR0_5.out HB.out) | (with_reducible refine Kd.C_alloc ?_ _) | (with_reducible refine Kd.C_drewN ?_ _) | (with_reducible refine Kd.C_drew ?_))); (case side2 => exact HC0_5.out); (case side3 => repeat (first | exact (Kd.C_below HR1.out HB.out) | (with_reducible refine Kd.C_alloc ?_ _) | (with_reducible refine Kd.C_drewN ?_ _) | (with_reducible refine Kd.C_drew ?_))); (case side4 => exact HC1.out); rintro e w11 ⟨rfl, hb⟩; refine ⟨_, rfl, ?_⟩; have n0_ := Aside0.mk (blk_below (bkA BK165.out) hb); have n1_ := Aside0.mk (below_step (blA HB.out) hb); clear BK165; clear HB; have BK165 := n0_; have HB := n1_; clear n0_ n1_; (try clear hb)))
   go_loopg [8, 36] k (fun kq v8 v36 w' => ∃ (x8_1 : List (List Int)) (x36_1 : Int), v36 = .int .i64 x36_1 ∧ Aside0 (witness_Run.l0 kq x8_1 l1 (l1.length : Int) x36_1 a0_0 a0_1 a0_2 a0_3 a0_4 l0_5 = some (r1, r2)) ∧ Aside0 (kq ≤ k) ∧ Aside0 (Kd.S (Kd.slice 43 (Kd.int .u64)) 68 w' w.heap.size (fun _ => True) v8 x8_1) ∧ Aside0 (w'.heap[gb165]? = some (.cells #[.int .i64 a0_0, .int .i64 a0_1, .int .i64 a0_2, .int .i64 a0_3, .int .i64 a0_4, (.slice A0_5 l0_5.length c0_5)] 24 (0, 0))) ∧ Aside0 (Below w.heap.size w w'))
   case atStart => exact ⟨(([] : List (List Int))), (0), eqA, H', ⟨Nat.le_refl _⟩, ⟨by first | exact Kd.S_nil _ _ _ _ _ | exact Kd.N_nil _ _ _ _ _ | exact Kd.V_nil _ _ _ _ _ | exact Kd.Q_nil _ _ _ _ _ | exact Kd.R_nil _ _ _ _ _⟩, ⟨bkA BK165.out⟩, ⟨blA HB.out⟩⟩
   case round =>
    clear H'; (try clear c1); (try clear c2); (try clear p2); (try clear c4); (try clear c4b0); (try clear c4b1); (try clear c6); (try clear c6b0); (try clear c6b1); (try clear p6); (try clear hcz10); (try clear hcz8); (try clear hfz10); (try clear hfz8); obtain ⟨x8_1, x36_1, rfl, HA, HK1, HO_8, BK165, HB⟩ := hrel
    cases gk with
    | zero => exact absurd HA.out (by simp [witness_Run.l0])
    | succ k1 =>
     have H := HA.out; clear HA
     simp only [witness_Run.l0] at H
     by_cases c12 : x36_1 < (l1.length : Int)
     ·rw [if_pos c12] at H
      have c12b0 : decide (x36_1 < (l1.length : Int)) = true := decide_eq_true c12; clear c12
      by_cases c13 : 0 ≤ x36_1
      ·rw [if_pos c13] at H
       have c13b0 : decide (0 ≤ x36_1) = true := decide_eq_true c13; clear c13
       by_cases c14 : x36_1 < (l1.length : Int)
       ·rw [if_pos c14] at H
        have c14b0 : decide (x36_1 < (l1.length : Int)) = true := decide_eq_true c14; clear c14; replace H := Option.bind_eq_some_iff.mp H; obtain ⟨t169, A150, H⟩ := H
        replace H : (if x8_1.length < 5864062014805 then (witness_Run.l0 k1 (x8_1 ++ [t169]) l1 (l1.length : Int) (wrap64 (x36_1 + 1)) a0_0 a0_1 a0_2 a0_3 a0_4 l0_5) else (none)) = some (r1, r2) := H
        have A15 := Aside0.mk A150; clear A150
        by_cases c16 : x8_1.length < 5864062014805
        ·rw [if_pos c16] at H
         have LMc16 := Aside0.mk c16; clear c16
         obtain ⟨y172, hy172⟩ : ∃ y_ : List (List Int), y_ = (x8_1 ++ [t169]) := ⟨_, rfl⟩
         replace H : (witness_Run.l0 k1 y172 l1 (l1.length : Int) (wrap64 (x36_1 + 1)) a0_0 a0_1 a0_2 a0_3 a0_4 l0_5) = some (r1, r2) := by first | (rw [hy172]; with_reducible exact H) | (have H2_ := (Option.bind_some _ _).symm.trans H; rw [hy172]; with_reducible exact H2_) | (have H2_ := (Option.bind_some _ _).symm.trans H; with_reducible exact H2_) | with_reducible exact H | (rw [hy172]; exact H) | exact H
         have Ny172 := Aside0.mk hy172; clear hy172; have H' := Aside0.mk H; clear H
         have p168 : 0 ≤ (x36_1 : Int) := of_decide_eq_true (by first | (with_reducible assumption) | assumption)
         have q168 : x36_1 < (l1.length : Int) := of_decide_eq_true (by first | (with_reducible assumption) | assumption)
         obtain ⟨ad168, A168_0, c168_0, e168, hx168_0, hl168_0, hi168_0⟩ := at_L4 HR1.out x36_1 p168 q168
         cases e168
         replace hx168_0 := (HB.out.cell (World.block_lt_of_cell? w _ hx168_0)).trans hx168_0; have HR168_0 := Aside0.mk hi168_0; have HC168_0 := Aside0.mk hl168_0; clear hi168_0 hl168_0; replace p168 := eq_true p168; replace q168 := eq_true q168
         go_wp2_with (first | ((with_reducible refine gate_callee (f := 66) rfl ?_); refine goesL_ (some 42) rfl rfl Try.func66 (by kernel_rfl) rfl #[.slice A168_0 (rd_L4 l1 x36_1).length c168_0] rfl gsA ?_; (with_reducible refine (slices_Clone_uint64_uint64.calls _ _ (rd_L4 l1 x36_1) t169 _ ?side1 ?side2 A15.out).mono ?_); (case side1 => repeat (first | exact (Kd.C_below HR168_0.out HB.out) | (with_reducible refine Kd.C_alloc ?_ _) | (with_reducible refine Kd.C_drewN ?_ _) | (with_reducible refine Kd.C_drew ?_))); (case side2 => exact HC168_0.out); rintro e w17 ⟨v170, rfl, ho0, hb⟩; refine ⟨_, rfl, ?_⟩; have n0_ := Aside0.mk (Kd.S_elder' (by (with_reducible repeat (first | apply Kd.S_alloc | apply Kd.S_drewN | apply Kd.S_drew)); exact HO_8.out) (Kd.R_base ho0) hb); have n1_ := Aside0.mk (Kd.R_lower ho0 (below_size (blA HB.out))); have n2_ := Aside0.mk (blk_below (bkA BK165.out) hb); have n3_ := Aside0.mk (below_step (blA HB.out) hb); clear HO_8; clear BK165; clear HB; have HO_8 := n0_; have HO171 := n1_; have BK165 := n2_; have HB := n3_; clear n0_ n1_ n2_ n3_; (try clear hb); (try clear ho0); obtain ⟨Ao19, co19, eo19⟩ := Kd.R_slice HO171.out; subst eo19) | ((with_reducible refine gate_builtin (b := .append) (xs := #[.tmp 40, .tmp 43]) rfl ?_); at_builtin; refine Kd.S_append (Kd.slice 43 (Kd.int .u64)) (w0 := w) w.heap.size rfl (.tmp 40) (.tmp 43) 56 68 (.slice none 0 0) 24 rfl Try.underlying56 info68 rfl (by decide) (by omega) u8 x8_1 t169 [.slice Ao19 t169.length co19] (fun _ => True) (fun k_ => some k_ = (.slice Ao19 t169.length co19 : Value).ownBlock) rfl rfl ?aP (fun k_ hk_ => ((Kd.R_mono (ok' := fun k_ => ((fun _ => True)) k_ ∧ some k_ ≠ (u8 : Value).ownBlock) (Kd.R_apart' (HO171.out) (Kd.S_typed HO_8.out) (by decide)) (fun k_ hk => ⟨trivial, hk.2⟩))).1 k_ hk_.symm) ?aF ?aO ?aB ?aS ?aL ?_; (case aP => exact Kd.M_row (Kd.R_mono (Kd.R_tight rfl (Kd.R_mono (ok' := fun k_ => ((fun _ => True)) k_ ∧ some k_ ≠ (u8 : Value).ownBlock) (Kd.R_apart' (HO171.out) (Kd.S_typed HO_8.out) (by decide)) (fun k_ hk => ⟨trivial, hk.2⟩))) (fun _ h_ => h_))); (case aB => exact (blA HB.out)); (case aF => exact (fun _ _ => trivial)); (case aO => exact (by (with_reducible repeat (first | apply Kd.S_alloc | apply Kd.S_drewN | apply Kd.S_drew)); exact Kd.S_mono HO_8.out (fun k_ hk => ⟨trivial, fun e_ => hk.2 e_⟩))); (case aS => exact (below_size (blA HB.out))); (case aL => have := LMc16.out; omega); intro v173 w18 ho hb hg hat; rw [← Ny172.out] at ho; have n0_ := Aside0.mk (blk_grown (bkA BK165.out) hg (Kd.S_ne HO_8.out BK165.out (by decide))); have n1_ := Aside0.mk (hb); have n2_ := Aside0.mk (ho); clear BK165; clear HB; clear HO_8; clear HO171; have BK165 := n0_; have HB := n1_; have HO174 := n2_; clear n0_ n1_ n2_; clear ho hb hg hat))
         go_roundg k1
         case measure => have := HK1.out; omega
         case rel => exact ⟨(y172), (wrap64 (x36_1 + 1)), eqA, H', ⟨by have := HK1.out; omega⟩, ⟨by (with_reducible repeat (first | apply Kd.S_alloc | apply Kd.S_drewN | apply Kd.S_drew)); exact HO174.out⟩, ⟨bkA BK165.out⟩, ⟨blA HB.out⟩⟩
        ·rw [if_neg c16] at H
         exact absurd H (by simp)
       ·rw [if_neg c14] at H
        exact absurd H (by simp)
      ·rw [if_neg c13] at H
       exact absurd H (by simp)
     ·rw [if_neg c12] at H
      have c12b0 : decide (x36_1 < (l1.length : Int)) = false := decide_eq_false c12; clear c12; have H' := Aside0.mk H; clear H
      have hcz20 := fun i => blk_cell BK165.out i
      have hfz20 := fun i => blk_frozen BK165.out i
      go_wp2
      go_loopg [8, 49] k1 (fun kq v8 v49 w' => ∃ (x8_2 : List (List Int)) (x49_2 : Int), v49 = .int .i64 x49_2 ∧ Aside0 (witness_Run.l1 kq x8_2 l0_5 (l0_5.length : Int) x49_2 a0_0 a0_1 a0_2 a0_3 a0_4 l0_5 = some (r1, r2)) ∧ Aside0 (kq ≤ k1) ∧ Aside0 (Kd.S (Kd.slice 43 (Kd.int .u64)) 68 w' w.heap.size (fun _ => True) v8 x8_2) ∧ Aside0 (w'.heap[gb165]? = some (.cells #[.int .i64 a0_0, .int .i64 a0_1, .int .i64 a0_2, .int .i64 a0_3, .int .i64 a0_4, (.slice A0_5 l0_5.length c0_5)] 24 (0, 0))) ∧ Aside0 (Below w.heap.size w w'))
      case atStart => exact ⟨(x8_1), (0), eqA, H', ⟨Nat.le_refl _⟩, ⟨by (with_reducible repeat (first | apply Kd.S_alloc | apply Kd.S_drewN | apply Kd.S_drew)); exact HO_8.out⟩, ⟨bkA BK165.out⟩, ⟨blA HB.out⟩⟩
      case round =>
       clear H'; (try clear c1); (try clear p1); (try clear q1); (try clear hx1); (try clear c2); (try clear p2); (try clear c4); (try clear c4b0); (try clear c4b1); (try clear c6); (try clear c6b0); (try clear c6b1); (try clear p6); (try clear c12); (try clear c12b0); (try clear c13); (try clear c13b0); (try clear c14); (try clear c14b0); (try clear c16); (try clear p16); (try clear q16); (try clear hx16); (try clear hcz10); (try clear hcz20); (try clear hcz8); (try clear hfz10); (try clear hfz20); (try clear hfz8); (try clear hx168_0); (try clear p168); (try clear p2); (try clear p6); (try clear q168); obtain ⟨x8_2, x49_2, rfl, HA, HK2, HO_8, BK165, HB⟩ := hrel
       cases gk with
       | zero => exact absurd HA.out (by simp [witness_Run.l1])
       | succ k2 =>
        have H := HA.out; clear HA
        simp only [witness_Run.l1] at H
        by_cases c21 : x49_2 < (l0_5.length : Int)
        ·rw [if_pos c21] at H
         have c21b0 : decide (x49_2 < (l0_5.length : Int)) = true := decide_eq_true c21; clear c21
         by_cases c22 : 0 ≤ x49_2
         ·rw [if_pos c22] at H
          have c22b0 : decide (0 ≤ x49_2) = true := decide_eq_true c22; clear c22
          by_cases c23 : x49_2 < (l0_5.length : Int)
          ·rw [if_pos c23] at H
           have c23b0 : decide (x49_2 < (l0_5.length : Int)) = true := decide_eq_true c23; clear c23
           by_cases c24 : ((rd_T105 l0_5 x49_2).f0) = 8
           ·rw [if_pos c24] at H
            have c24b0 : (((rd_T105 l0_5 x49_2).f0) == 8) = true := beq_iff_eq.mpr c24; have c24b1 : (((rd_T105 l0_5 x49_2).f0) != 8) = false := bne_eq_false_iff_eq.mpr c24; clear c24
            by_cases c25 : 0 ≤ ((rd_T105 l0_5 x49_2).f2)
            ·rw [if_pos c25] at H
             have c25b0 : decide (0 ≤ ((rd_T105 l0_5 x49_2).f2)) = true := decide_eq_true c25; clear c25
             by_cases c26 : ((rd_T105 l0_5 x49_2).f2) < (x8_2.length : Int)
             ·rw [if_pos c26] at H
              have c26b0 : decide (((rd_T105 l0_5 x49_2).f2) < (x8_2.length : Int)) = true := decide_eq_true c26; clear c26
              by_cases c27 : 0 ≤ ((rd_T105 l0_5 x49_2).f3)
              ·rw [if_pos c27] at H
               have c27b0 : decide (0 ≤ ((rd_T105 l0_5 x49_2).f3)) = true := decide_eq_true c27; clear c27
               by_cases c28 : ((rd_T105 l0_5 x49_2).f3) < (x8_2.length : Int)
               ·rw [if_pos c28] at H
                have c28b0 : decide (((rd_T105 l0_5 x49_2).f3) < (x8_2.length : Int)) = true := decide_eq_true c28; clear c28; replace H := Option.bind_eq_some_iff.mp H; obtain ⟨t179, A290, H⟩ := H
                replace H : (if t179 = true then (witness_Run.l1 k2 x8_2 l0_5 (l0_5.length : Int) (wrap64 (x49_2 + 1)) a0_0 a0_1 a0_2 a0_3 a0_4 l0_5) else (some (([] : List (List Int)), 7))) = some (r1, r2) := H
                have A29 := Aside0.mk A290; clear A290
                by_cases c30 : t179 = true
                ·subst c30
                 have H1 : (witness_Run.l1 k2 x8_2 l0_5 (l0_5.length : Int) (wrap64 (x49_2 + 1)) a0_0 a0_1 a0_2 a0_3 a0_4 l0_5) = some (r1, r2) := by rw [if_pos rfl] at H; exact H
                 clear H; have H := H1; clear H1; have H' := Aside0.mk H; clear H
                 have p175 : 0 ≤ (x49_2 : Int) := of_decide_eq_true (by first | (with_reducible assumption) | assumption)
                 have q175 : x49_2 < (l0_5.length : Int) := of_decide_eq_true (by first | (with_reducible assumption) | assumption)
                 obtain ⟨ad175, e175, hx175_0, hx175_1, hx175_2, hx175_3, hx175_4⟩ := at_T105 HR0_5.out x49_2 p175 q175
                 cases e175
                 replace hx175_0 := (HB.out.cell (World.block_lt_of_cell? w _ hx175_0)).trans hx175_0; replace hx175_1 := (HB.out.cell (World.block_lt_of_cell? w _ hx175_1)).trans hx175_1; replace hx175_2 := (HB.out.cell (World.block_lt_of_cell? w _ hx175_2)).trans hx175_2; replace hx175_3 := (HB.out.cell (World.block_lt_of_cell? w _ hx175_3)).trans hx175_3; replace hx175_4 := (HB.out.cell (World.block_lt_of_cell? w _ hx175_4)).trans hx175_4; replace p175 := eq_true p175; replace q175 := eq_true q175
                 try go_wp2_with (first | ((with_reducible refine gate_dst (N := 12) rfl ?_); refine box_event ?hg (N := 12) ?hd (cs := #[.int .i64 0, .int .i64 0, .int .i64 0, .int .i64 0, .int .i64 0]) (t := 105) ?hr ?_; (case hd => rfl); (case hg => rfl); (case hr => first | (go_simp; done) | (go_simp; rfl)); intro gb176 hg w31 hbox hb; have n0_ := Aside0.mk (Kd.S_below (by (with_reducible repeat (first | apply Kd.S_alloc | apply Kd.S_drewN | apply Kd.S_drew)); exact HO_8.out) hb); have n1_ := Aside0.mk (blk_below (bkA BK165.out) hb); have n2_ := Aside0.mk (below_step (blA HB.out) hb); have n3_ := Aside0.mk (hbox); have n4_ := Aside0.mk ((by rw [hg]; exact (below_size (blA HB.out)) : w.heap.size ≤ gb176)); have n5_ := Aside0.mk ((by rw [hg]; exact (below_size (blA HB.out)) : w.heap.size ≤ gb176)); have n6_ := Aside0.mk ((by rw [hg]; exact Nat.ne_of_lt (blk_lt (bkA BK165.out)) : gb165 ≠ gb176)); have n7_ := Aside0.mk ((by rw [hg]; exact Nat.ne_of_gt (blk_lt (bkA BK165.out)) : gb176 ≠ gb165)); clear HO_8; clear BK165; clear HB; have HO_8 := n0_; have BK165 := n1_; have HB := n2_; have BK176 := n3_; have GW176 := n4_; have GE176 := n5_; have NB165_176 := n6_; have NB176_165 := n7_; clear n0_ n1_ n2_ n3_ n4_ n5_ n6_ n7_; clear hb hbox hg; have hnb32 := NB176_165.out; have hnc32 := NB165_176.out; have hcz33 := fun i => blk_cell BK176.out i; have hfz33 := fun i => blk_frozen BK176.out i; ))
                 have n0_ : Aside0 (Kd.S (Kd.slice 43 (Kd.int .u64)) 68 (((((w31.setCell ⟨gb176, 0, none⟩ (.int .i64 ((rd_T105 l0_5 x49_2).f0))).setCell ⟨gb176, 1, none⟩ (.int .i64 ((rd_T105 l0_5 x49_2).f1))).setCell ⟨gb176, 2, none⟩ (.int .i64 ((rd_T105 l0_5 x49_2).f2))).setCell ⟨gb176, 3, none⟩ (.int .i64 ((rd_T105 l0_5 x49_2).f3))).setCell ⟨gb176, 4, none⟩ (.int .i64 ((rd_T105 l0_5 x49_2).f4))) w.heap.size (fun _ => True) u8 x8_2) := ⟨by (with_reducible repeat (first | apply Kd.S_alloc | apply Kd.S_drewN | apply Kd.S_drew)); exact Kd.S_mono (Kd.S_far (p := ⟨gb176, 4, none⟩) (Kd.S_far (p := ⟨gb176, 3, none⟩) (Kd.S_far (p := ⟨gb176, 2, none⟩) (Kd.S_far (p := ⟨gb176, 1, none⟩) (Kd.S_far (p := ⟨gb176, 0, none⟩) (Kd.S_types HO_8.out BK176.out (by decide)) (fun _ hk => hk.2) (.int .i64 ((rd_T105 l0_5 x49_2).f0))) (fun _ hk => hk.2) (.int .i64 ((rd_T105 l0_5 x49_2).f1))) (fun _ hk => hk.2) (.int .i64 ((rd_T105 l0_5 x49_2).f2))) (fun _ hk => hk.2) (.int .i64 ((rd_T105 l0_5 x49_2).f3))) (fun _ hk => hk.2) (.int .i64 ((rd_T105 l0_5 x49_2).f4))) (fun _ hk => trivial)⟩
                 have n1_ : Aside0 ((((((w31.setCell ⟨gb176, 0, none⟩ (.int .i64 ((rd_T105 l0_5 x49_2).f0))).setCell ⟨gb176, 1, none⟩ (.int .i64 ((rd_T105 l0_5 x49_2).f1))).setCell ⟨gb176, 2, none⟩ (.int .i64 ((rd_T105 l0_5 x49_2).f2))).setCell ⟨gb176, 3, none⟩ (.int .i64 ((rd_T105 l0_5 x49_2).f3))).setCell ⟨gb176, 4, none⟩ (.int .i64 ((rd_T105 l0_5 x49_2).f4))).heap[gb165]? = some (.cells #[.int .i64 a0_0, .int .i64 a0_1, .int .i64 a0_2, .int .i64 a0_3, .int .i64 a0_4, .slice (some ad175) l0_5.length c0_5] 24 (0, 0))) := ⟨by refine bkA ?_; refine blk_far ?_ NB165_176.out _; refine bkA ?_; refine blk_far ?_ NB165_176.out _; refine bkA ?_; refine blk_far ?_ NB165_176.out _; refine bkA ?_; refine blk_far ?_ NB165_176.out _; refine bkA ?_; refine blk_far ?_ NB165_176.out _; refine bkA ?_; exact BK165.out⟩
                 have n2_ : Aside0 ((((((w31.setCell ⟨gb176, 0, none⟩ (.int .i64 ((rd_T105 l0_5 x49_2).f0))).setCell ⟨gb176, 1, none⟩ (.int .i64 ((rd_T105 l0_5 x49_2).f1))).setCell ⟨gb176, 2, none⟩ (.int .i64 ((rd_T105 l0_5 x49_2).f2))).setCell ⟨gb176, 3, none⟩ (.int .i64 ((rd_T105 l0_5 x49_2).f3))).setCell ⟨gb176, 4, none⟩ (.int .i64 ((rd_T105 l0_5 x49_2).f4))).heap[gb176]? = some (.cells #[.int .i64 ((rd_T105 l0_5 x49_2).f0), .int .i64 ((rd_T105 l0_5 x49_2).f1), .int .i64 ((rd_T105 l0_5 x49_2).f2), .int .i64 ((rd_T105 l0_5 x49_2).f3), .int .i64 ((rd_T105 l0_5 x49_2).f4)] 105 (0, 0))) := ⟨by refine bkA ?_; refine blk_put (cs := #[.int .i64 ((rd_T105 l0_5 x49_2).f0), .int .i64 ((rd_T105 l0_5 x49_2).f1), .int .i64 ((rd_T105 l0_5 x49_2).f2), .int .i64 ((rd_T105 l0_5 x49_2).f3), .int .i64 0]) ?_ 4 _ rfl; refine bkA ?_; refine blk_put (cs := #[.int .i64 ((rd_T105 l0_5 x49_2).f0), .int .i64 ((rd_T105 l0_5 x49_2).f1), .int .i64 ((rd_T105 l0_5 x49_2).f2), .int .i64 0, .int .i64 0]) ?_ 3 _ rfl; refine bkA ?_; refine blk_put (cs := #[.int .i64 ((rd_T105 l0_5 x49_2).f0), .int .i64 ((rd_T105 l0_5 x49_2).f1), .int .i64 0, .int .i64 0, .int .i64 0]) ?_ 2 _ rfl; refine bkA ?_; refine blk_put (cs := #[.int .i64 ((rd_T105 l0_5 x49_2).f0), .int .i64 0, .int .i64 0, .int .i64 0, .int .i64 0]) ?_ 1 _ rfl; refine bkA ?_; refine blk_put (cs := #[.int .i64 0, .int .i64 0, .int .i64 0, .int .i64 0, .int .i64 0]) ?_ 0 _ rfl; refine bkA ?_; exact BK176.out⟩
                 have n3_ : Aside0 (Below w.heap.size w (((((w31.setCell ⟨gb176, 0, none⟩ (.int .i64 ((rd_T105 l0_5 x49_2).f0))).setCell ⟨gb176, 1, none⟩ (.int .i64 ((rd_T105 l0_5 x49_2).f1))).setCell ⟨gb176, 2, none⟩ (.int .i64 ((rd_T105 l0_5 x49_2).f2))).setCell ⟨gb176, 3, none⟩ (.int .i64 ((rd_T105 l0_5 x49_2).f3))).setCell ⟨gb176, 4, none⟩ (.int .i64 ((rd_T105 l0_5 x49_2).f4)))) := ⟨blA HB.out⟩
                 (try clear HO_8)
                 (try clear BK165)
                 (try clear BK176)
                 (try clear HB)
                 generalize (((((w31.setCell ⟨gb176, 0, none⟩ (.int .i64 ((rd_T105 l0_5 x49_2).f0))).setCell ⟨gb176, 1, none⟩ (.int .i64 ((rd_T105 l0_5 x49_2).f1))).setCell ⟨gb176, 2, none⟩ (.int .i64 ((rd_T105 l0_5 x49_2).f2))).setCell ⟨gb176, 3, none⟩ (.int .i64 ((rd_T105 l0_5 x49_2).f3))).setCell ⟨gb176, 4, none⟩ (.int .i64 ((rd_T105 l0_5 x49_2).f4))) = w34 at n0_ n1_ n2_ n3_ ⊢
                 have HO_8 := n0_; have BK165 := n1_; have BK176 := n2_; have HB := n3_; clear n0_ n1_ n2_ n3_; have n0_ := Aside0.mk (Kd.S_drew HO_8.out); have n1_ := Aside0.mk (blk_drew BK165.out); have n2_ := Aside0.mk (blk_drew BK176.out); have n3_ := Aside0.mk (below_drew1 HB.out); clear HO_8; clear BK165; clear BK176; clear HB; have HO_8 := n0_; have BK165 := n1_; have BK176 := n2_; have HB := n3_; clear n0_ n1_ n2_ n3_; obtain ⟨Ao36, co36, eo36⟩ := Kd.S_slice HO_8.out
                 (first | subst eo36 | (injection eo36 with f1_ f2_ f3_; have f4_ := f1_.symm; have f5_ := f3_.symm; clear f1_ f2_ f3_; subst f4_; subst f5_))
                 have p177 : 0 ≤ (((rd_T105 l0_5 x49_2).f2) : Int) := of_decide_eq_true (by first | (with_reducible assumption) | assumption)
                 have q177 : ((rd_T105 l0_5 x49_2).f2) < (x8_2.length : Int) := of_decide_eq_true (by first | (with_reducible assumption) | assumption)
                 obtain ⟨ad177, A177_0, c177_0, e177, hx177_0, hl177_0, hi177_0⟩ := at_L4 (Kd.S_reads' HO_8.out).2.2 ((rd_T105 l0_5 x49_2).f2) p177 q177
                 cases e177
                 obtain ⟨ce177, hce177, hMe177, hcc177⟩ := Kd.S_get HO_8.out [] ((rd_T105 l0_5 x49_2).f2) p177 (by first | exact q177 | exact of_decide_eq_true (by first | (with_reducible assumption) | assumption) | (have e_ := (Kd.S_reads' HO_8.out).1; omega))
                 obtain ⟨ve177_0, rfl, ge177_0⟩ := hMe177; have hv177_0 := hcc177 0 _ rfl
                 rw [Nat.add_zero, show ((Kd.slice 43 (Kd.int .u64))).sz = 1 from rfl, Nat.mul_one] at hv177_0
                 replace hv177_0 := Option.some.inj (hv177_0.symm.trans hx177_0)
                 rw [hv177_0] at ge177_0
                 have HL177_0 := Aside0.mk (show Kd.R (Kd.int .u64) 43 _ _ _ _ (rd_L4 x8_2 ((rd_T105 l0_5 x49_2).f2)) from ge177_0)
                 clear hv177_0 ge177_0; clear hcc177 hce177; have HR177_0 := Aside0.mk hi177_0; have HC177_0 := Aside0.mk hl177_0; clear hi177_0 hl177_0; replace p177 := eq_true p177; replace q177 := eq_true q177
                 have p178 : 0 ≤ (((rd_T105 l0_5 x49_2).f3) : Int) := of_decide_eq_true (by first | (with_reducible assumption) | assumption)
                 have q178 : ((rd_T105 l0_5 x49_2).f3) < (x8_2.length : Int) := of_decide_eq_true (by first | (with_reducible assumption) | assumption)
                 obtain ⟨ad178, A178_0, c178_0, e178, hx178_0, hl178_0, hi178_0⟩ := at_L4 (Kd.S_reads' HO_8.out).2.2 ((rd_T105 l0_5 x49_2).f3) p178 q178
                 obtain rfl : ad177 = ad178 := (by injection e178)
                 obtain ⟨ce178, hce178, hMe178, hcc178⟩ := Kd.S_get HO_8.out [] ((rd_T105 l0_5 x49_2).f3) p178 (by first | exact q178 | exact of_decide_eq_true (by first | (with_reducible assumption) | assumption) | (have e_ := (Kd.S_reads' HO_8.out).1; omega))
                 obtain ⟨ve178_0, rfl, ge178_0⟩ := hMe178; have hv178_0 := hcc178 0 _ rfl
                 rw [Nat.add_zero, show ((Kd.slice 43 (Kd.int .u64))).sz = 1 from rfl, Nat.mul_one] at hv178_0
                 replace hv178_0 := Option.some.inj (hv178_0.symm.trans hx178_0)
                 rw [hv178_0] at ge178_0
                 have HL178_0 := Aside0.mk (show Kd.R (Kd.int .u64) 43 _ _ _ _ (rd_L4 x8_2 ((rd_T105 l0_5 x49_2).f3)) from ge178_0)
                 clear hv178_0 ge178_0; clear hcc178 hce178; have HR178_0 := Aside0.mk hi178_0; have HC178_0 := Aside0.mk hl178_0; clear hi178_0 hl178_0; replace p178 := eq_true p178; replace q178 := eq_true q178
                 refine start_ (n := 12) (S := fun w' => w'.cell? ⟨gb176, 0, none⟩ = some (.int .i64 ((rd_T105 l0_5 x49_2).f0)) ∧ w'.cell? ⟨gb176, 1, none⟩ = some (.int .i64 ((rd_T105 l0_5 x49_2).f1)) ∧ w'.cell? ⟨gb176, 2, none⟩ = some (.int .i64 ((rd_T105 l0_5 x49_2).f2)) ∧ w'.cell? ⟨gb176, 3, none⟩ = some (.int .i64 ((rd_T105 l0_5 x49_2).f3)) ∧ w'.cell? ⟨gb176, 4, none⟩ = some (.int .i64 ((rd_T105 l0_5 x49_2).f4)) ∧ w'.cell? (ad177.add (((rd_T105 l0_5 x49_2).f2)).toNat) = some (.slice A177_0 (rd_L4 x8_2 ((rd_T105 l0_5 x49_2).f2)).length c177_0) ∧ w'.cell? (ad177.add (((rd_T105 l0_5 x49_2).f3)).toNat) = some (.slice A178_0 (rd_L4 x8_2 ((rd_T105 l0_5 x49_2).f3)).length c178_0)) (ds := []) #[false, false, false, false, false, false, false, false, false, false, false, false] (by kernel_rfl) rfl rfl ⟨(blk_cell BK176.out 0).trans rfl, (blk_cell BK176.out 1).trans rfl, (blk_cell BK176.out 2).trans rfl, (blk_cell BK176.out 3).trans rfl, (blk_cell BK176.out 4).trans rfl, hx177_0, hx178_0⟩ (fun hHeld => ?_); refine with_tabW witness_Run.tab17 witness_Run.bits17 (fun HT_ HW_ => ?_)
                 generalize w34.drew = w35 at HO_8 BK165 BK176 HB HL177_0 HL178_0 HR177_0 HR178_0 hx177_0 hx178_0 hHeld ⊢
                 refine pureA 0 (some 56) HT_.out ?_
                 refine pureA 1 (some 57) HT_.out ?_
                 refine pureA 5 (some 61) HT_.out ?_
                 refine pureA 6 (some 62) HT_.out ?_
                 refine takeA 2 (some 58) rfl HT_.out HW_.out hHeld (Or.inl ⟨by rfl, by rintro w' ⟨s0, s1, s2, s3, s4, s5, s6⟩; go_simp; with_reducible rfl⟩) ?_
                 refine pureA 3 (some 59) HT_.out ?_
                 refine takeA 4 (some 60) rfl HT_.out HW_.out hHeld (Or.inl ⟨by rfl, by rintro w' ⟨s0, s1, s2, s3, s4, s5, s6⟩; go_simp; with_reducible rfl⟩) ?_
                 refine takeA 7 (some 63) rfl HT_.out HW_.out hHeld (Or.inl ⟨by rfl, by rintro w' ⟨s0, s1, s2, s3, s4, s5, s6⟩; go_simp; with_reducible rfl⟩) ?_
                 refine pureA 8 (some 64) HT_.out ?_
                 refine takeA 9 (some 65) rfl HT_.out HW_.out hHeld (Or.inl ⟨by rfl, by rintro w' ⟨s0, s1, s2, s3, s4, s5, s6⟩; go_simp; with_reducible rfl⟩) ?_
                 refine one_ (i := 10) (N := some 66) #[true, true, true, true, true, true, true, true, true, true, true, false] rfl rfl (one_of HT_.out (by kernel_rfl)) (by decide) (fun K hK => ?_)
                 refine goes_ Try.func67 (by kernel_rfl) rfl #[.slice A177_0 (rd_L4 x8_2 ((rd_T105 l0_5 x49_2).f2)).length c177_0, .slice A178_0 (rd_L4 x8_2 ((rd_T105 l0_5 x49_2).f3)).length c178_0] (by rfl) rfl rfl gsA ?_
                 with_reducible refine (slices_Equal_uint64_uint64.calls k2 _ _ (rd_L4 x8_2 ((rd_T105 l0_5 x49_2).f2)) _ _ (rd_L4 x8_2 ((rd_T105 l0_5 x49_2).f3)) true _ ?side1 ?side2 ?side3 ?side4 A29.out).mono ?_
                 (case side1 => repeat (first | exact (by repeat (first | (with_reducible exact HR177_0.out) | (with_reducible refine Kd.C_alloc ?_ _) | (with_reducible refine Kd.C_drewN ?_ _) | (with_reducible refine Kd.C_drew ?_) | exact HR177_0.out)) | (with_reducible refine Kd.C_alloc ?_ _) | (with_reducible refine Kd.C_drewN ?_ _) | (with_reducible refine Kd.C_drew ?_)))
                 (case side2 => exact HC177_0.out)
                 (case side3 => repeat (first | exact (by repeat (first | (with_reducible exact HR178_0.out) | (with_reducible refine Kd.C_alloc ?_ _) | (with_reducible refine Kd.C_drewN ?_ _) | (with_reducible refine Kd.C_drew ?_) | exact HR178_0.out)) | (with_reducible refine Kd.C_alloc ?_ _) | (with_reducible refine Kd.C_drewN ?_ _) | (with_reducible refine Kd.C_drew ?_)))
                 (case side4 => exact HC178_0.out)
                 rintro e w' ⟨rfl, ⟨nd, rfl⟩⟩
                 refine ⟨_, rfl, ?_⟩
                 refine hK.out _ _ ⟨(blk_cell BK176.out 0).trans rfl, (blk_cell BK176.out 1).trans rfl, (blk_cell BK176.out 2).trans rfl, (blk_cell BK176.out 3).trans rfl, (blk_cell BK176.out 4).trans rfl, hHeld.2.2.2.2.2.1, hHeld.2.2.2.2.2.2⟩ (fun hHeld => ?_)
                 clear hK K
                 refine normA ?_
                 refine pureA 11 (some 67) HT_.out ?_
                 refine done_ (done_of HT_.out (by kernel_rfl)) ?_
                 try go_wp2
                 go_roundg k2
                 case measure => have := HK1.out; have := HK2.out; omega
                 case rel => exact ⟨(x8_2), (wrap64 (x49_2 + 1)), eqA, H', ⟨by have := HK1.out; have := HK2.out; omega⟩, ⟨by (with_reducible repeat (first | apply Kd.S_alloc | apply Kd.S_drewN | apply Kd.S_drew)); exact HO_8.out⟩, ⟨bkA BK165.out⟩, ⟨blA HB.out⟩⟩
                ·replace c30 := Bool.eq_false_iff.mpr c30; subst c30
                 have H1 : (some (([] : List (List Int)), 7)) = some (r1, r2) := by rw [if_neg (show ¬ (false = true) by decide)] at H; exact H
                 clear H; have H := H1; clear H1
                 simp only [Option.some.injEq, Prod.mk.injEq] at H
                 obtain ⟨rfl, rfl⟩ := H
                 have p175 : 0 ≤ (x49_2 : Int) := of_decide_eq_true (by first | (with_reducible assumption) | assumption)
                 have q175 : x49_2 < (l0_5.length : Int) := of_decide_eq_true (by first | (with_reducible assumption) | assumption)
                 obtain ⟨ad175, e175, hx175_0, hx175_1, hx175_2, hx175_3, hx175_4⟩ := at_T105 HR0_5.out x49_2 p175 q175
                 cases e175
                 replace hx175_0 := (HB.out.cell (World.block_lt_of_cell? w _ hx175_0)).trans hx175_0; replace hx175_1 := (HB.out.cell (World.block_lt_of_cell? w _ hx175_1)).trans hx175_1; replace hx175_2 := (HB.out.cell (World.block_lt_of_cell? w _ hx175_2)).trans hx175_2; replace hx175_3 := (HB.out.cell (World.block_lt_of_cell? w _ hx175_3)).trans hx175_3; replace hx175_4 := (HB.out.cell (World.block_lt_of_cell? w _ hx175_4)).trans hx175_4; replace p175 := eq_true p175; replace q175 := eq_true q175
                 try go_wp2_with (first | ((with_reducible refine gate_dst (N := 12) rfl ?_); refine box_event ?hg (N := 12) ?hd (cs := #[.int .i64 0, .int .i64 0, .int .i64 0, .int .i64 0, .int .i64 0]) (t := 105) ?hr ?_; (case hd => rfl); (case hg => rfl); (case hr => first | (go_simp; done) | (go_simp; rfl)); intro gb176 hg w37 hbox hb; have n0_ := Aside0.mk (Kd.S_below (by (with_reducible repeat (first | apply Kd.S_alloc | apply Kd.S_drewN | apply Kd.S_drew)); exact HO_8.out) hb); have n1_ := Aside0.mk (blk_below (bkA BK165.out) hb); have n2_ := Aside0.mk (below_step (blA HB.out) hb); have n3_ := Aside0.mk (hbox); have n4_ := Aside0.mk ((by rw [hg]; exact (below_size (blA HB.out)) : w.heap.size ≤ gb176)); have n5_ := Aside0.mk ((by rw [hg]; exact (below_size (blA HB.out)) : w.heap.size ≤ gb176)); have n6_ := Aside0.mk ((by rw [hg]; exact Nat.ne_of_lt (blk_lt (bkA BK165.out)) : gb165 ≠ gb176)); have n7_ := Aside0.mk ((by rw [hg]; exact Nat.ne_of_gt (blk_lt (bkA BK165.out)) : gb176 ≠ gb165)); clear HO_8; clear BK165; clear HB; have HO_8 := n0_; have BK165 := n1_; have HB := n2_; have BK176 := n3_; have GW176 := n4_; have GE176 := n5_; have NB165_176 := n6_; have NB176_165 := n7_; clear n0_ n1_ n2_ n3_ n4_ n5_ n6_ n7_; clear hb hbox hg; have hnb38 := NB176_165.out; have hnc38 := NB165_176.out; have hcz39 := fun i => blk_cell BK176.out i; have hfz39 := fun i => blk_frozen BK176.out i; ))
                 have n0_ : Aside0 (Kd.S (Kd.slice 43 (Kd.int .u64)) 68 (((((w37.setCell ⟨gb176, 0, none⟩ (.int .i64 ((rd_T105 l0_5 x49_2).f0))).setCell ⟨gb176, 1, none⟩ (.int .i64 ((rd_T105 l0_5 x49_2).f1))).setCell ⟨gb176, 2, none⟩ (.int .i64 ((rd_T105 l0_5 x49_2).f2))).setCell ⟨gb176, 3, none⟩ (.int .i64 ((rd_T105 l0_5 x49_2).f3))).setCell ⟨gb176, 4, none⟩ (.int .i64 ((rd_T105 l0_5 x49_2).f4))) w.heap.size (fun _ => True) u8 x8_2) := ⟨by (with_reducible repeat (first | apply Kd.S_alloc | apply Kd.S_drewN | apply Kd.S_drew)); exact Kd.S_mono (Kd.S_far (p := ⟨gb176, 4, none⟩) (Kd.S_far (p := ⟨gb176, 3, none⟩) (Kd.S_far (p := ⟨gb176, 2, none⟩) (Kd.S_far (p := ⟨gb176, 1, none⟩) (Kd.S_far (p := ⟨gb176, 0, none⟩) (Kd.S_types HO_8.out BK176.out (by decide)) (fun _ hk => hk.2) (.int .i64 ((rd_T105 l0_5 x49_2).f0))) (fun _ hk => hk.2) (.int .i64 ((rd_T105 l0_5 x49_2).f1))) (fun _ hk => hk.2) (.int .i64 ((rd_T105 l0_5 x49_2).f2))) (fun _ hk => hk.2) (.int .i64 ((rd_T105 l0_5 x49_2).f3))) (fun _ hk => hk.2) (.int .i64 ((rd_T105 l0_5 x49_2).f4))) (fun _ hk => trivial)⟩
                 have n1_ : Aside0 ((((((w37.setCell ⟨gb176, 0, none⟩ (.int .i64 ((rd_T105 l0_5 x49_2).f0))).setCell ⟨gb176, 1, none⟩ (.int .i64 ((rd_T105 l0_5 x49_2).f1))).setCell ⟨gb176, 2, none⟩ (.int .i64 ((rd_T105 l0_5 x49_2).f2))).setCell ⟨gb176, 3, none⟩ (.int .i64 ((rd_T105 l0_5 x49_2).f3))).setCell ⟨gb176, 4, none⟩ (.int .i64 ((rd_T105 l0_5 x49_2).f4))).heap[gb165]? = some (.cells #[.int .i64 a0_0, .int .i64 a0_1, .int .i64 a0_2, .int .i64 a0_3, .int .i64 a0_4, .slice (some ad175) l0_5.length c0_5] 24 (0, 0))) := ⟨by refine bkA ?_; refine blk_far ?_ NB165_176.out _; refine bkA ?_; refine blk_far ?_ NB165_176.out _; refine bkA ?_; refine blk_far ?_ NB165_176.out _; refine bkA ?_; refine blk_far ?_ NB165_176.out _; refine bkA ?_; refine blk_far ?_ NB165_176.out _; refine bkA ?_; exact BK165.out⟩
                 have n2_ : Aside0 ((((((w37.setCell ⟨gb176, 0, none⟩ (.int .i64 ((rd_T105 l0_5 x49_2).f0))).setCell ⟨gb176, 1, none⟩ (.int .i64 ((rd_T105 l0_5 x49_2).f1))).setCell ⟨gb176, 2, none⟩ (.int .i64 ((rd_T105 l0_5 x49_2).f2))).setCell ⟨gb176, 3, none⟩ (.int .i64 ((rd_T105 l0_5 x49_2).f3))).setCell ⟨gb176, 4, none⟩ (.int .i64 ((rd_T105 l0_5 x49_2).f4))).heap[gb176]? = some (.cells #[.int .i64 ((rd_T105 l0_5 x49_2).f0), .int .i64 ((rd_T105 l0_5 x49_2).f1), .int .i64 ((rd_T105 l0_5 x49_2).f2), .int .i64 ((rd_T105 l0_5 x49_2).f3), .int .i64 ((rd_T105 l0_5 x49_2).f4)] 105 (0, 0))) := ⟨by refine bkA ?_; refine blk_put (cs := #[.int .i64 ((rd_T105 l0_5 x49_2).f0), .int .i64 ((rd_T105 l0_5 x49_2).f1), .int .i64 ((rd_T105 l0_5 x49_2).f2), .int .i64 ((rd_T105 l0_5 x49_2).f3), .int .i64 0]) ?_ 4 _ rfl; refine bkA ?_; refine blk_put (cs := #[.int .i64 ((rd_T105 l0_5 x49_2).f0), .int .i64 ((rd_T105 l0_5 x49_2).f1), .int .i64 ((rd_T105 l0_5 x49_2).f2), .int .i64 0, .int .i64 0]) ?_ 3 _ rfl; refine bkA ?_; refine blk_put (cs := #[.int .i64 ((rd_T105 l0_5 x49_2).f0), .int .i64 ((rd_T105 l0_5 x49_2).f1), .int .i64 0, .int .i64 0, .int .i64 0]) ?_ 2 _ rfl; refine bkA ?_; refine blk_put (cs := #[.int .i64 ((rd_T105 l0_5 x49_2).f0), .int .i64 0, .int .i64 0, .int .i64 0, .int .i64 0]) ?_ 1 _ rfl; refine bkA ?_; refine blk_put (cs := #[.int .i64 0, .int .i64 0, .int .i64 0, .int .i64 0, .int .i64 0]) ?_ 0 _ rfl; refine bkA ?_; exact BK176.out⟩
                 have n3_ : Aside0 (Below w.heap.size w (((((w37.setCell ⟨gb176, 0, none⟩ (.int .i64 ((rd_T105 l0_5 x49_2).f0))).setCell ⟨gb176, 1, none⟩ (.int .i64 ((rd_T105 l0_5 x49_2).f1))).setCell ⟨gb176, 2, none⟩ (.int .i64 ((rd_T105 l0_5 x49_2).f2))).setCell ⟨gb176, 3, none⟩ (.int .i64 ((rd_T105 l0_5 x49_2).f3))).setCell ⟨gb176, 4, none⟩ (.int .i64 ((rd_T105 l0_5 x49_2).f4)))) := ⟨blA HB.out⟩
                 (try clear HO_8)
                 (try clear BK165)
                 (try clear BK176)
                 (try clear HB)
                 generalize (((((w37.setCell ⟨gb176, 0, none⟩ (.int .i64 ((rd_T105 l0_5 x49_2).f0))).setCell ⟨gb176, 1, none⟩ (.int .i64 ((rd_T105 l0_5 x49_2).f1))).setCell ⟨gb176, 2, none⟩ (.int .i64 ((rd_T105 l0_5 x49_2).f2))).setCell ⟨gb176, 3, none⟩ (.int .i64 ((rd_T105 l0_5 x49_2).f3))).setCell ⟨gb176, 4, none⟩ (.int .i64 ((rd_T105 l0_5 x49_2).f4))) = w40 at n0_ n1_ n2_ n3_ ⊢
                 have HO_8 := n0_; have BK165 := n1_; have BK176 := n2_; have HB := n3_; clear n0_ n1_ n2_ n3_; have n0_ := Aside0.mk (Kd.S_drew HO_8.out); have n1_ := Aside0.mk (blk_drew BK165.out); have n2_ := Aside0.mk (blk_drew BK176.out); have n3_ := Aside0.mk (below_drew1 HB.out); clear HO_8; clear BK165; clear BK176; clear HB; have HO_8 := n0_; have BK165 := n1_; have BK176 := n2_; have HB := n3_; clear n0_ n1_ n2_ n3_; obtain ⟨Ao42, co42, eo42⟩ := Kd.S_slice HO_8.out
                 (first | subst eo42 | (injection eo42 with f1_ f2_ f3_; have f4_ := f1_.symm; have f5_ := f3_.symm; clear f1_ f2_ f3_; subst f4_; subst f5_))
                 have p177 : 0 ≤ (((rd_T105 l0_5 x49_2).f2) : Int) := of_decide_eq_true (by first | (with_reducible assumption) | assumption)
                 have q177 : ((rd_T105 l0_5 x49_2).f2) < (x8_2.length : Int) := of_decide_eq_true (by first | (with_reducible assumption) | assumption)
                 obtain ⟨ad177, A177_0, c177_0, e177, hx177_0, hl177_0, hi177_0⟩ := at_L4 (Kd.S_reads' HO_8.out).2.2 ((rd_T105 l0_5 x49_2).f2) p177 q177
                 cases e177
                 obtain ⟨ce177, hce177, hMe177, hcc177⟩ := Kd.S_get HO_8.out [] ((rd_T105 l0_5 x49_2).f2) p177 (by first | exact q177 | exact of_decide_eq_true (by first | (with_reducible assumption) | assumption) | (have e_ := (Kd.S_reads' HO_8.out).1; omega))
                 obtain ⟨ve177_0, rfl, ge177_0⟩ := hMe177; have hv177_0 := hcc177 0 _ rfl
                 rw [Nat.add_zero, show ((Kd.slice 43 (Kd.int .u64))).sz = 1 from rfl, Nat.mul_one] at hv177_0
                 replace hv177_0 := Option.some.inj (hv177_0.symm.trans hx177_0)
                 rw [hv177_0] at ge177_0
                 have HL177_0 := Aside0.mk (show Kd.R (Kd.int .u64) 43 _ _ _ _ (rd_L4 x8_2 ((rd_T105 l0_5 x49_2).f2)) from ge177_0)
                 clear hv177_0 ge177_0; clear hcc177 hce177; have HR177_0 := Aside0.mk hi177_0; have HC177_0 := Aside0.mk hl177_0; clear hi177_0 hl177_0; replace p177 := eq_true p177; replace q177 := eq_true q177
                 have p178 : 0 ≤ (((rd_T105 l0_5 x49_2).f3) : Int) := of_decide_eq_true (by first | (with_reducible assumption) | assumption)
                 have q178 : ((rd_T105 l0_5 x49_2).f3) < (x8_2.length : Int) := of_decide_eq_true (by first | (with_reducible assumption) | assumption)
                 obtain ⟨ad178, A178_0, c178_0, e178, hx178_0, hl178_0, hi178_0⟩ := at_L4 (Kd.S_reads' HO_8.out).2.2 ((rd_T105 l0_5 x49_2).f3) p178 q178
                 obtain rfl : ad177 = ad178 := (by injection e178)
                 obtain ⟨ce178, hce178, hMe178, hcc178⟩ := Kd.S_get HO_8.out [] ((rd_T105 l0_5 x49_2).f3) p178 (by first | exact q178 | exact of_decide_eq_true (by first | (with_reducible assumption) | assumption) | (have e_ := (Kd.S_reads' HO_8.out).1; omega))
                 obtain ⟨ve178_0, rfl, ge178_0⟩ := hMe178; have hv178_0 := hcc178 0 _ rfl
                 rw [Nat.add_zero, show ((Kd.slice 43 (Kd.int .u64))).sz = 1 from rfl, Nat.mul_one] at hv178_0
                 replace hv178_0 := Option.some.inj (hv178_0.symm.trans hx178_0)
                 rw [hv178_0] at ge178_0
                 have HL178_0 := Aside0.mk (show Kd.R (Kd.int .u64) 43 _ _ _ _ (rd_L4 x8_2 ((rd_T105 l0_5 x49_2).f3)) from ge178_0)
                 clear hv178_0 ge178_0; clear hcc178 hce178; have HR178_0 := Aside0.mk hi178_0; have HC178_0 := Aside0.mk hl178_0; clear hi178_0 hl178_0; replace p178 := eq_true p178; replace q178 := eq_true q178
                 refine start_ (n := 12) (S := fun w' => w'.cell? ⟨gb176, 0, none⟩ = some (.int .i64 ((rd_T105 l0_5 x49_2).f0)) ∧ w'.cell? ⟨gb176, 1, none⟩ = some (.int .i64 ((rd_T105 l0_5 x49_2).f1)) ∧ w'.cell? ⟨gb176, 2, none⟩ = some (.int .i64 ((rd_T105 l0_5 x49_2).f2)) ∧ w'.cell? ⟨gb176, 3, none⟩ = some (.int .i64 ((rd_T105 l0_5 x49_2).f3)) ∧ w'.cell? ⟨gb176, 4, none⟩ = some (.int .i64 ((rd_T105 l0_5 x49_2).f4)) ∧ w'.cell? (ad177.add (((rd_T105 l0_5 x49_2).f2)).toNat) = some (.slice A177_0 (rd_L4 x8_2 ((rd_T105 l0_5 x49_2).f2)).length c177_0) ∧ w'.cell? (ad177.add (((rd_T105 l0_5 x49_2).f3)).toNat) = some (.slice A178_0 (rd_L4 x8_2 ((rd_T105 l0_5 x49_2).f3)).length c178_0)) (ds := []) #[false, false, false, false, false, false, false, false, false, false, false, false] (by kernel_rfl) rfl rfl ⟨(blk_cell BK176.out 0).trans rfl, (blk_cell BK176.out 1).trans rfl, (blk_cell BK176.out 2).trans rfl, (blk_cell BK176.out 3).trans rfl, (blk_cell BK176.out 4).trans rfl, hx177_0, hx178_0⟩ (fun hHeld => ?_); refine with_tabW witness_Run.tab17 witness_Run.bits17 (fun HT_ HW_ => ?_)
                 generalize w40.drew = w41 at HO_8 BK165 BK176 HB HL177_0 HL178_0 HR177_0 HR178_0 hx177_0 hx178_0 hHeld ⊢
                 refine pureA 0 (some 56) HT_.out ?_
                 refine pureA 1 (some 57) HT_.out ?_
                 refine pureA 5 (some 61) HT_.out ?_
                 refine pureA 6 (some 62) HT_.out ?_
                 refine takeA 2 (some 58) rfl HT_.out HW_.out hHeld (Or.inl ⟨by rfl, by rintro w' ⟨s0, s1, s2, s3, s4, s5, s6⟩; go_simp; with_reducible rfl⟩) ?_
                 refine pureA 3 (some 59) HT_.out ?_
                 refine takeA 4 (some 60) rfl HT_.out HW_.out hHeld (Or.inl ⟨by rfl, by rintro w' ⟨s0, s1, s2, s3, s4, s5, s6⟩; go_simp; with_reducible rfl⟩) ?_
                 refine takeA 7 (some 63) rfl HT_.out HW_.out hHeld (Or.inl ⟨by rfl, by rintro w' ⟨s0, s1, s2, s3, s4, s5, s6⟩; go_simp; with_reducible rfl⟩) ?_
                 refine pureA 8 (some 64) HT_.out ?_
                 refine takeA 9 (some 65) rfl HT_.out HW_.out hHeld (Or.inl ⟨by rfl, by rintro w' ⟨s0, s1, s2, s3, s4, s5, s6⟩; go_simp; with_reducible rfl⟩) ?_
                 refine one_ (i := 10) (N := some 66) #[true, true, true, true, true, true, true, true, true, true, true, false] rfl rfl (one_of HT_.out (by kernel_rfl)) (by decide) (fun K hK => ?_)
                 refine goes_ Try.func67 (by kernel_rfl) rfl #[.slice A177_0 (rd_L4 x8_2 ((rd_T105 l0_5 x49_2).f2)).length c177_0, .slice A178_0 (rd_L4 x8_2 ((rd_T105 l0_5 x49_2).f3)).length c178_0] (by rfl) rfl rfl gsA ?_
                 with_reducible refine (slices_Equal_uint64_uint64.calls k2 _ _ (rd_L4 x8_2 ((rd_T105 l0_5 x49_2).f2)) _ _ (rd_L4 x8_2 ((rd_T105 l0_5 x49_2).f3)) false _ ?side1 ?side2 ?side3 ?side4 A29.out).mono ?_
                 (case side1 => repeat (first | exact (by repeat (first | (with_reducible exact HR177_0.out) | (with_reducible refine Kd.C_alloc ?_ _) | (with_reducible refine Kd.C_drewN ?_ _) | (with_reducible refine Kd.C_drew ?_) | exact HR177_0.out)) | (with_reducible refine Kd.C_alloc ?_ _) | (with_reducible refine Kd.C_drewN ?_ _) | (with_reducible refine Kd.C_drew ?_)))
                 (case side2 => exact HC177_0.out)
                 (case side3 => repeat (first | exact (by repeat (first | (with_reducible exact HR178_0.out) | (with_reducible refine Kd.C_alloc ?_ _) | (with_reducible refine Kd.C_drewN ?_ _) | (with_reducible refine Kd.C_drew ?_) | exact HR178_0.out)) | (with_reducible refine Kd.C_alloc ?_ _) | (with_reducible refine Kd.C_drewN ?_ _) | (with_reducible refine Kd.C_drew ?_)))
                 (case side4 => exact HC178_0.out)
                 rintro e w' ⟨rfl, ⟨nd, rfl⟩⟩
                 refine ⟨_, rfl, ?_⟩
                 refine hK.out _ _ ⟨(blk_cell BK176.out 0).trans rfl, (blk_cell BK176.out 1).trans rfl, (blk_cell BK176.out 2).trans rfl, (blk_cell BK176.out 3).trans rfl, (blk_cell BK176.out 4).trans rfl, hHeld.2.2.2.2.2.1, hHeld.2.2.2.2.2.2⟩ (fun hHeld => ?_)
                 clear hK K
                 refine normA ?_
                 refine pureA 11 (some 67) HT_.out ?_
                 refine done_ (done_of HT_.out (by kernel_rfl)) ?_
                 try go_wp2
                 go_ret2
                 exact ⟨_, by first | rfl | (simp [errW_none, errW_some] <;> rfl) | (simp [*, errW_none, errW_some] <;> rfl), by first | exact Kd.S_nil _ _ _ _ _ | exact Kd.N_nil _ _ _ _ _ | exact Kd.V_nil _ _ _ _ _ | exact Kd.Q_nil _ _ _ _ _ | exact Kd.R_nil _ _ _ _ _, blA HB.out⟩
               ·rw [if_neg c28] at H
                exact absurd H (by simp)
              ·rw [if_neg c27] at H
               exact absurd H (by simp)
             ·rw [if_neg c26] at H
              exact absurd H (by simp)
            ·rw [if_neg c25] at H
             exact absurd H (by simp)
           ·rw [if_neg c24] at H
            have c24b0 : (((rd_T105 l0_5 x49_2).f0) == 8) = false := beq_eq_false_iff_ne.mpr c24; have c24b1 : (((rd_T105 l0_5 x49_2).f0) != 8) = true := bne_iff_ne.mpr c24
            by_cases c43 : 0 ≤ a0_1
            ·rw [if_pos c43] at H
             have c43b0 := eq_true c43; have c43b1 : decide (0 ≤ a0_1) = true := decide_eq_true c43; clear c43
             obtain ⟨ji44, hji44⟩ : ∃ j_ : Int, (shl .i64 1 a0_1) = j_ := ⟨_, rfl⟩
             replace H : (witness_Run.l2 k2 x8_2 ([] : List Int) ([] : List Int) l0_5 (l0_5.length : Int) x49_2 ji44 0 a0_0 a0_1 a0_2 a0_3 a0_4 l0_5 ((rd_T105 l0_5 x49_2).f0) ((rd_T105 l0_5 x49_2).f1) ((rd_T105 l0_5 x49_2).f2) ((rd_T105 l0_5 x49_2).f3) ((rd_T105 l0_5 x49_2).f4)) = some (r1, r2) := by first | (rw [hji44] at H; exact H) | (simp only [hji44] at H ⊢; exact H)
             have hji44_ : (IntKind.i64.wrap (1 * 2 ^ min a0_1.toNat 64)) = ji44 := hji44; have hji44z : a0_1 ≤ 64 → (IntKind.i64.wrap (1 * 2 ^ a0_1.toNat)) = ji44 := shl_small hji44
             have hji44u : (IntKind.i64.wrap (2 ^ min a0_1.toNat 64)) = ji44 := by have h_ := hji44_; rw [Int.one_mul] at h_; exact h_
             have hji44v : a0_1 ≤ 64 → (IntKind.i64.wrap (2 ^ a0_1.toNat)) = ji44 := fun hle_ => by have h_ := hji44z hle_; rw [Int.one_mul] at h_; exact h_
             have hji44y : (wrap64 (1 * 2 ^ min a0_1.toNat 64)) = ji44 := (i64_w _).symm.trans hji44_
             have hji44x : a0_1 ≤ 64 → (wrap64 (1 * 2 ^ a0_1.toNat)) = ji44 := fun h_ => (i64_w _).symm.trans (hji44z h_)
             have H' := Aside0.mk H; clear H
             have p175 : 0 ≤ (x49_2 : Int) := of_decide_eq_true (by first | (with_reducible assumption) | assumption)
             have q175 : x49_2 < (l0_5.length : Int) := of_decide_eq_true (by first | (with_reducible assumption) | assumption)
             obtain ⟨ad175, e175, hx175_0, hx175_1, hx175_2, hx175_3, hx175_4⟩ := at_T105 HR0_5.out x49_2 p175 q175
             cases e175
             replace hx175_0 := (HB.out.cell (World.block_lt_of_cell? w _ hx175_0)).trans hx175_0; replace hx175_1 := (HB.out.cell (World.block_lt_of_cell? w _ hx175_1)).trans hx175_1; replace hx175_2 := (HB.out.cell (World.block_lt_of_cell? w _ hx175_2)).trans hx175_2; replace hx175_3 := (HB.out.cell (World.block_lt_of_cell? w _ hx175_3)).trans hx175_3; replace hx175_4 := (HB.out.cell (World.block_lt_of_cell? w _ hx175_4)).trans hx175_4; replace p175 := eq_true p175; replace q175 := eq_true q175
             go_wp2_with (first | ((with_reducible refine gate_dst (N := 12) rfl ?_); refine box_event ?hg (N := 12) ?hd (cs := #[.int .i64 0, .int .i64 0, .int .i64 0, .int .i64 0, .int .i64 0]) (t := 105) ?hr ?_; (case hd => rfl); (case hg => rfl); (case hr => first | (go_simp; done) | (go_simp; rfl)); intro gb176 hg w45 hbox hb; have n0_ := Aside0.mk (Kd.S_below (by (with_reducible repeat (first | apply Kd.S_alloc | apply Kd.S_drewN | apply Kd.S_drew)); exact HO_8.out) hb); have n1_ := Aside0.mk (blk_below (bkA BK165.out) hb); have n2_ := Aside0.mk (below_step (blA HB.out) hb); have n3_ := Aside0.mk (hbox); have n4_ := Aside0.mk ((by rw [hg]; exact (below_size (blA HB.out)) : w.heap.size ≤ gb176)); have n5_ := Aside0.mk ((by rw [hg]; exact (below_size (blA HB.out)) : w.heap.size ≤ gb176)); have n6_ := Aside0.mk ((by rw [hg]; exact Nat.ne_of_lt (blk_lt (bkA BK165.out)) : gb165 ≠ gb176)); have n7_ := Aside0.mk ((by rw [hg]; exact Nat.ne_of_gt (blk_lt (bkA BK165.out)) : gb176 ≠ gb165)); clear HO_8; clear BK165; clear HB; have HO_8 := n0_; have BK165 := n1_; have HB := n2_; have BK176 := n3_; have GW176 := n4_; have GE176 := n5_; have NB165_176 := n6_; have NB176_165 := n7_; clear n0_ n1_ n2_ n3_ n4_ n5_ n6_ n7_; clear hb hbox hg; have hnb46 := NB176_165.out; have hnc46 := NB165_176.out; have hcz47 := fun i => blk_cell BK176.out i; have hfz47 := fun i => blk_frozen BK176.out i; have hcz48 := fun i => blk_cell BK165.out i; have hfz48 := fun i => blk_frozen BK165.out i; ))
             go_loopg [13, 14, 71] k2 (fun kq v13 v14 v71 w' => ∃ (x13_3 : List Int) (x14_3 : List Int) (x71_3 : Int), v71 = .int .i64 x71_3 ∧ Aside0 (witness_Run.l2 kq x8_2 x13_3 x14_3 l0_5 (l0_5.length : Int) x49_2 ji44 x71_3 a0_0 a0_1 a0_2 a0_3 a0_4 l0_5 ((rd_T105 l0_5 x49_2).f0) ((rd_T105 l0_5 x49_2).f1) ((rd_T105 l0_5 x49_2).f2) ((rd_T105 l0_5 x49_2).f3) ((rd_T105 l0_5 x49_2).f4) = some (r1, r2)) ∧ Aside0 (kq ≤ k2) ∧ Aside0 (Kd.S (Kd.slice 43 (Kd.int .u64)) 68 w' w.heap.size (fun k_ => some k_ ≠ (v13 : Value).ownBlock ∧ some k_ ≠ (v14 : Value).ownBlock) u8 x8_2) ∧ Aside0 (Kd.R (Kd.int .u64) 43 w' w.heap.size (fun k_ => some k_ ≠ (v14 : Value).ownBlock) v13 x13_3) ∧ Aside0 (Kd.R (Kd.int .u64) 43 w' w.heap.size (fun k_ => some k_ ≠ (v13 : Value).ownBlock) v14 x14_3) ∧ Aside0 (w'.heap[gb165]? = some (.cells #[.int .i64 a0_0, .int .i64 a0_1, .int .i64 a0_2, .int .i64 a0_3, .int .i64 a0_4, (.slice (some ad175) l0_5.length c0_5)] 24 (0, 0))) ∧ Aside0 (w'.heap[gb176]? = some (.cells #[.int .i64 ((rd_T105 l0_5 x49_2).f0), .int .i64 ((rd_T105 l0_5 x49_2).f1), .int .i64 ((rd_T105 l0_5 x49_2).f2), .int .i64 ((rd_T105 l0_5 x49_2).f3), .int .i64 ((rd_T105 l0_5 x49_2).f4)] 105 (0, 0))) ∧ Aside0 (Below w.heap.size w w'))
             case atStart => exact ⟨(([] : List Int)), (([] : List Int)), (0), eqA, H', ⟨Nat.le_refl _⟩, ⟨by (with_reducible repeat (first | apply Kd.S_alloc | apply Kd.S_drewN | apply Kd.S_drew)); exact Kd.S_mono (Kd.S_far (p := ⟨gb176, 4, none⟩) (Kd.S_far (p := ⟨gb176, 3, none⟩) (Kd.S_far (p := ⟨gb176, 2, none⟩) (Kd.S_far (p := ⟨gb176, 1, none⟩) (Kd.S_far (p := ⟨gb176, 0, none⟩) (Kd.S_types HO_8.out BK176.out (by decide)) (fun _ hk => hk.2) (.int .i64 ((rd_T105 l0_5 x49_2).f0))) (fun _ hk => hk.2) (.int .i64 ((rd_T105 l0_5 x49_2).f1))) (fun _ hk => hk.2) (.int .i64 ((rd_T105 l0_5 x49_2).f2))) (fun _ hk => hk.2) (.int .i64 ((rd_T105 l0_5 x49_2).f3))) (fun _ hk => hk.2) (.int .i64 ((rd_T105 l0_5 x49_2).f4))) (fun _ hk => ⟨(by simp [Value.ownBlock]), (by simp [Value.ownBlock])⟩)⟩, ⟨by first | exact Kd.R_nil _ _ _ _ _ | exact Kd.N_nil _ _ _ _ _ | exact Kd.V_nil _ _ _ _ _ | exact Kd.Q_nil _ _ _ _ _ | exact Kd.S_nil _ _ _ _ _⟩, ⟨by first | exact Kd.R_nil _ _ _ _ _ | exact Kd.N_nil _ _ _ _ _ | exact Kd.V_nil _ _ _ _ _ | exact Kd.Q_nil _ _ _ _ _ | exact Kd.S_nil _ _ _ _ _⟩, ⟨by refine bkA ?_; refine blk_far ?_ NB165_176.out _; refine bkA ?_; refine blk_far ?_ NB165_176.out _; refine bkA ?_; refine blk_far ?_ NB165_176.out _; refine bkA ?_; refine blk_far ?_ NB165_176.out _; refine bkA ?_; refine blk_far ?_ NB165_176.out _; refine bkA ?_; exact BK165.out⟩, ⟨by refine bkA ?_; refine blk_put (cs := #[.int .i64 ((rd_T105 l0_5 x49_2).f0), .int .i64 ((rd_T105 l0_5 x49_2).f1), .int .i64 ((rd_T105 l0_5 x49_2).f2), .int .i64 ((rd_T105 l0_5 x49_2).f3), .int .i64 0]) ?_ 4 _ rfl; refine bkA ?_; refine blk_put (cs := #[.int .i64 ((rd_T105 l0_5 x49_2).f0), .int .i64 ((rd_T105 l0_5 x49_2).f1), .int .i64 ((rd_T105 l0_5 x49_2).f2), .int .i64 0, .int .i64 0]) ?_ 3 _ rfl; refine bkA ?_; refine blk_put (cs := #[.int .i64 ((rd_T105 l0_5 x49_2).f0), .int .i64 ((rd_T105 l0_5 x49_2).f1), .int .i64 0, .int .i64 0, .int .i64 0]) ?_ 2 _ rfl; refine bkA ?_; refine blk_put (cs := #[.int .i64 ((rd_T105 l0_5 x49_2).f0), .int .i64 0, .int .i64 0, .int .i64 0, .int .i64 0]) ?_ 1 _ rfl; refine bkA ?_; refine blk_put (cs := #[.int .i64 0, .int .i64 0, .int .i64 0, .int .i64 0, .int .i64 0]) ?_ 0 _ rfl; refine bkA ?_; exact BK176.out⟩, ⟨blA HB.out⟩⟩
             case round =>
              clear H'; (try clear c1); (try clear p1); (try clear q1); (try clear hx1); (try clear c2); (try clear p2); (try clear c3); (try clear c4); (try clear c4b0); (try clear c4b1); (try clear c6); (try clear c6b0); (try clear c6b1); (try clear p6); (try clear c12); (try clear c12b0); (try clear c13); (try clear c13b0); (try clear c14); (try clear c14b0); (try clear c16); (try clear p16); (try clear q16); (try clear hx16); (try clear c17); (try clear p17); (try clear q17); (try clear hx17); (try clear c21); (try clear c21b0); (try clear c22); (try clear c22b0); (try clear c23); (try clear c23b0); (try clear c24); (try clear c24b0); (try clear c24b1); (try clear c25); (try clear c25b0); (try clear c26); (try clear c26b0); (try clear c27); (try clear c27b0); (try clear c28); (try clear c28b0); (try clear c30); (try clear c32); (try clear c38); (try clear c43); (try clear c43b0); (try clear c43b1); (try clear c46); (try clear hcz10); (try clear hcz20); (try clear hcz33); (try clear hcz39); (try clear hcz47); (try clear hcz48); (try clear hcz8); (try clear hfz10); (try clear hfz20); (try clear hfz33); (try clear hfz39); (try clear hfz47); (try clear hfz48); (try clear hfz8); (try clear hx168_0); (try clear hx175_0); (try clear hx175_1); (try clear hx175_2); (try clear hx175_3); (try clear hx175_4); (try clear hx177_0); (try clear hx178_0); (try clear p1); (try clear p16); (try clear p168); (try clear p175); (try clear p177); (try clear p178); (try clear p2); (try clear p6); (try clear q1); (try clear q16); (try clear q168); (try clear q175); (try clear q177); (try clear q178); obtain ⟨x13_3, x14_3, x71_3, rfl, HA, HK3, HO_8, HO_13, HO_14, BK165, BK176, HB⟩ := hrel
              cases gk with
              | zero => exact absurd HA.out (by simp [witness_Run.l2])
              | succ k3 =>
               have H := HA.out; clear HA
               simp only [witness_Run.l2] at H
               by_cases c49 : x71_3 < ji44
               ·rw [if_pos c49] at H
                have c49b0 : decide (x71_3 < ji44) = true := decide_eq_true c49; clear c49
                by_cases c50 : 0 ≤ ((rd_T105 l0_5 x49_2).f2)
                ·rw [if_pos c50] at H
                 have c50b0 : decide (0 ≤ ((rd_T105 l0_5 x49_2).f2)) = true := decide_eq_true c50; clear c50
                 by_cases c51 : ((rd_T105 l0_5 x49_2).f2) < (x8_2.length : Int)
                 ·rw [if_pos c51] at H
                  have c51b0 : decide (((rd_T105 l0_5 x49_2).f2) < (x8_2.length : Int)) = true := decide_eq_true c51; clear c51
                  by_cases c52 : 0 ≤ x71_3
                  ·rw [if_pos c52] at H
                   have c52b0 : decide (0 ≤ x71_3) = true := decide_eq_true c52; clear c52
                   by_cases c53 : x71_3 < ((rd_L4 x8_2 ((rd_T105 l0_5 x49_2).f2)).length : Int)
                   ·rw [if_pos c53] at H
                    have c53b0 : decide (x71_3 < ((rd_L4 x8_2 ((rd_T105 l0_5 x49_2).f2)).length : Int)) = true := decide_eq_true c53; clear c53
                    by_cases c54 : 0 ≤ ((rd_T105 l0_5 x49_2).f3)
                    ·rw [if_pos c54] at H
                     have c54b0 : decide (0 ≤ ((rd_T105 l0_5 x49_2).f3)) = true := decide_eq_true c54; clear c54
                     by_cases c55 : ((rd_T105 l0_5 x49_2).f3) < (x8_2.length : Int)
                     ·rw [if_pos c55] at H
                      have c55b0 : decide (((rd_T105 l0_5 x49_2).f3) < (x8_2.length : Int)) = true := decide_eq_true c55; clear c55
                      by_cases c56 : x71_3 < ((rd_L4 x8_2 ((rd_T105 l0_5 x49_2).f3)).length : Int)
                      ·rw [if_pos c56] at H
                       have c56b0 : decide (x71_3 < ((rd_L4 x8_2 ((rd_T105 l0_5 x49_2).f3)).length : Int)) = true := decide_eq_true c56; clear c56; replace H := Option.bind_eq_some_iff.mp H
                       obtain ⟨⟨t184, t185⟩, A570, H⟩ := H
                       replace H : (if x13_3.length < 17592186044416 then (if x14_3.length < 17592186044416 then (witness_Run.l2 k3 x8_2 (x13_3 ++ [t184]) (x14_3 ++ [t185]) l0_5 (l0_5.length : Int) x49_2 ji44 (wrap64 (x71_3 + 1)) a0_0 a0_1 a0_2 a0_3 a0_4 l0_5 ((rd_T105 l0_5 x49_2).f0) ((rd_T105 l0_5 x49_2).f1) ((rd_T105 l0_5 x49_2).f2) ((rd_T105 l0_5 x49_2).f3) ((rd_T105 l0_5 x49_2).f4)) else (none)) else (none)) = some (r1, r2) := H
                       have A57 := Aside0.mk A570; clear A570
                       by_cases c58 : x13_3.length < 17592186044416
                       ·rw [if_pos c58] at H
                        have LMc58 := Aside0.mk c58; clear c58
                        obtain ⟨y186, hy186⟩ : ∃ y_ : List Int, y_ = (x13_3 ++ [t184]) := ⟨_, rfl⟩
                        replace H : (if x14_3.length < 17592186044416 then (witness_Run.l2 k3 x8_2 y186 (x14_3 ++ [t185]) l0_5 (l0_5.length : Int) x49_2 ji44 (wrap64 (x71_3 + 1)) a0_0 a0_1 a0_2 a0_3 a0_4 l0_5 ((rd_T105 l0_5 x49_2).f0) ((rd_T105 l0_5 x49_2).f1) ((rd_T105 l0_5 x49_2).f2) ((rd_T105 l0_5 x49_2).f3) ((rd_T105 l0_5 x49_2).f4)) else (none)) = some (r1, r2) := by first | (rw [hy186]; with_reducible exact H) | (have H2_ := (Option.bind_some _ _).symm.trans H; rw [hy186]; with_reducible exact H2_) | (have H2_ := (Option.bind_some _ _).symm.trans H; with_reducible exact H2_) | with_reducible exact H | (rw [hy186]; exact H) | exact H
                        have Ny186 := Aside0.mk hy186; clear hy186
                        by_cases c59 : x14_3.length < 17592186044416
                        ·rw [if_pos c59] at H
                         have LMc59 := Aside0.mk c59; clear c59
                         obtain ⟨y189, hy189⟩ : ∃ y_ : List Int, y_ = (x14_3 ++ [t185]) := ⟨_, rfl⟩
                         replace H : (witness_Run.l2 k3 x8_2 y186 y189 l0_5 (l0_5.length : Int) x49_2 ji44 (wrap64 (x71_3 + 1)) a0_0 a0_1 a0_2 a0_3 a0_4 l0_5 ((rd_T105 l0_5 x49_2).f0) ((rd_T105 l0_5 x49_2).f1) ((rd_T105 l0_5 x49_2).f2) ((rd_T105 l0_5 x49_2).f3) ((rd_T105 l0_5 x49_2).f4)) = some (r1, r2) := by first | (rw [hy189]; with_reducible exact H) | (have H2_ := (Option.bind_some _ _).symm.trans H; rw [hy189]; with_reducible exact H2_) | (have H2_ := (Option.bind_some _ _).symm.trans H; with_reducible exact H2_) | with_reducible exact H | (rw [hy189]; exact H) | exact H
                         have Ny189 := Aside0.mk hy189; clear hy189; have H' := Aside0.mk H; clear H
                         try go_wp2
                         have n0_ := Aside0.mk (Kd.S_drew HO_8.out); have n1_ := Aside0.mk (Kd.R_drew HO_13.out); have n2_ := Aside0.mk (Kd.R_drew HO_14.out); have n3_ := Aside0.mk (blk_drew BK165.out); have n4_ := Aside0.mk (blk_drew BK176.out); have n5_ := Aside0.mk (below_drew1 HB.out); clear HO_8; clear HO_13; clear HO_14; clear BK165; clear BK176; clear HB; have HO_8 := n0_; have HO_13 := n1_; have HO_14 := n2_; have BK165 := n3_; have BK176 := n4_; have HB := n5_; clear n0_ n1_ n2_ n3_ n4_ n5_; obtain ⟨Ao61, co61, eo61⟩ := Kd.S_slice HO_8.out
                         (first | subst eo61 | (injection eo61 with f1_ f2_ f3_; have f4_ := f1_.symm; have f5_ := f3_.symm; clear f1_ f2_ f3_; subst f4_; subst f5_))
                         have p180 : 0 ≤ (((rd_T105 l0_5 x49_2).f2) : Int) := of_decide_eq_true (by first | (with_reducible assumption) | assumption)
                         have q180 : ((rd_T105 l0_5 x49_2).f2) < (x8_2.length : Int) := of_decide_eq_true (by first | (with_reducible assumption) | assumption)
                         obtain ⟨ad180, A180_0, c180_0, e180, hx180_0, hl180_0, hi180_0⟩ := at_L4 (Kd.S_reads' HO_8.out).2.2 ((rd_T105 l0_5 x49_2).f2) p180 q180
                         cases e180
                         obtain ⟨ce180, hce180, hMe180, hcc180⟩ := Kd.S_get HO_8.out [] ((rd_T105 l0_5 x49_2).f2) p180 (by first | exact q180 | exact of_decide_eq_true (by first | (with_reducible assumption) | assumption) | (have e_ := (Kd.S_reads' HO_8.out).1; omega))
                         obtain ⟨ve180_0, rfl, ge180_0⟩ := hMe180; have hv180_0 := hcc180 0 _ rfl
                         rw [Nat.add_zero, show ((Kd.slice 43 (Kd.int .u64))).sz = 1 from rfl, Nat.mul_one] at hv180_0
                         replace hv180_0 := Option.some.inj (hv180_0.symm.trans hx180_0)
                         rw [hv180_0] at ge180_0
                         have HL180_0 := Aside0.mk (show Kd.R (Kd.int .u64) 43 _ _ _ _ (rd_L4 x8_2 ((rd_T105 l0_5 x49_2).f2)) from ge180_0)
                         clear hv180_0 ge180_0; clear hcc180 hce180; have HR180_0 := Aside0.mk hi180_0; have HC180_0 := Aside0.mk hl180_0; clear hi180_0 hl180_0; replace p180 := eq_true p180; replace q180 := eq_true q180
                         have p181 : 0 ≤ (x71_3 : Int) := of_decide_eq_true (by first | (with_reducible assumption) | assumption)
                         have q181 : x71_3 < ((rd_L4 x8_2 ((rd_T105 l0_5 x49_2).f2)).length : Int) := of_decide_eq_true (by first | (with_reducible assumption) | assumption)
                         obtain ⟨ad181, e181, hx181_0⟩ := Kd.at_int (by repeat (first | (with_reducible exact HR180_0.out) | (with_reducible refine Kd.C_alloc ?_ _) | (with_reducible refine Kd.C_drewN ?_ _) | (with_reducible refine Kd.C_drew ?_) | exact HR180_0.out)) x71_3 p181 q181
                         cases e181
                         replace p181 := eq_true p181; replace q181 := eq_true q181
                         have p182 : 0 ≤ (((rd_T105 l0_5 x49_2).f3) : Int) := of_decide_eq_true (by first | (with_reducible assumption) | assumption)
                         have q182 : ((rd_T105 l0_5 x49_2).f3) < (x8_2.length : Int) := of_decide_eq_true (by first | (with_reducible assumption) | assumption)
                         obtain ⟨ad182, A182_0, c182_0, e182, hx182_0, hl182_0, hi182_0⟩ := at_L4 (Kd.S_reads' HO_8.out).2.2 ((rd_T105 l0_5 x49_2).f3) p182 q182
                         obtain rfl : ad180 = ad182 := (by injection e182)
                         obtain ⟨ce182, hce182, hMe182, hcc182⟩ := Kd.S_get HO_8.out [] ((rd_T105 l0_5 x49_2).f3) p182 (by first | exact q182 | exact of_decide_eq_true (by first | (with_reducible assumption) | assumption) | (have e_ := (Kd.S_reads' HO_8.out).1; omega))
                         obtain ⟨ve182_0, rfl, ge182_0⟩ := hMe182; have hv182_0 := hcc182 0 _ rfl
                         rw [Nat.add_zero, show ((Kd.slice 43 (Kd.int .u64))).sz = 1 from rfl, Nat.mul_one] at hv182_0
                         replace hv182_0 := Option.some.inj (hv182_0.symm.trans hx182_0)
                         rw [hv182_0] at ge182_0
                         have HL182_0 := Aside0.mk (show Kd.R (Kd.int .u64) 43 _ _ _ _ (rd_L4 x8_2 ((rd_T105 l0_5 x49_2).f3)) from ge182_0)
                         clear hv182_0 ge182_0; clear hcc182 hce182; have HR182_0 := Aside0.mk hi182_0; have HC182_0 := Aside0.mk hl182_0; clear hi182_0 hl182_0; replace p182 := eq_true p182; replace q182 := eq_true q182
                         have p183 : 0 ≤ (x71_3 : Int) := of_decide_eq_true (by first | (with_reducible assumption) | assumption)
                         have q183 : x71_3 < ((rd_L4 x8_2 ((rd_T105 l0_5 x49_2).f3)).length : Int) := of_decide_eq_true (by first | (with_reducible assumption) | assumption)
                         obtain ⟨ad183, e183, hx183_0⟩ := Kd.at_int (by repeat (first | (with_reducible exact HR182_0.out) | (with_reducible refine Kd.C_alloc ?_ _) | (with_reducible refine Kd.C_drewN ?_ _) | (with_reducible refine Kd.C_drew ?_) | exact HR182_0.out)) x71_3 p183 q183
                         cases e183
                         replace p183 := eq_true p183; replace q183 := eq_true q183
                         refine start_ (n := 24) (S := fun w' => w'.cell? ⟨gb165, 0, none⟩ = some (.int .i64 a0_0) ∧ w'.cell? ⟨gb165, 1, none⟩ = some (.int .i64 a0_1) ∧ w'.cell? ⟨gb165, 2, none⟩ = some (.int .i64 a0_2) ∧ w'.cell? ⟨gb165, 3, none⟩ = some (.int .i64 a0_3) ∧ w'.cell? ⟨gb165, 4, none⟩ = some (.int .i64 a0_4) ∧ w'.cell? ⟨gb165, 5, none⟩ = some (.slice (some ad175) l0_5.length c0_5) ∧ w'.cell? ⟨gb176, 0, none⟩ = some (.int .i64 ((rd_T105 l0_5 x49_2).f0)) ∧ w'.cell? ⟨gb176, 1, none⟩ = some (.int .i64 ((rd_T105 l0_5 x49_2).f1)) ∧ w'.cell? ⟨gb176, 2, none⟩ = some (.int .i64 ((rd_T105 l0_5 x49_2).f2)) ∧ w'.cell? ⟨gb176, 3, none⟩ = some (.int .i64 ((rd_T105 l0_5 x49_2).f3)) ∧ w'.cell? ⟨gb176, 4, none⟩ = some (.int .i64 ((rd_T105 l0_5 x49_2).f4)) ∧ w'.cell? (ad180.add (((rd_T105 l0_5 x49_2).f2)).toNat) = some (.slice (some ad181) (rd_L4 x8_2 ((rd_T105 l0_5 x49_2).f2)).length c180_0) ∧ w'.cell? (ad181.add (x71_3).toNat) = some (.int .u64 (rd (rd_L4 x8_2 ((rd_T105 l0_5 x49_2).f2)) x71_3)) ∧ w'.cell? (ad180.add (((rd_T105 l0_5 x49_2).f3)).toNat) = some (.slice (some ad183) (rd_L4 x8_2 ((rd_T105 l0_5 x49_2).f3)).length c182_0) ∧ w'.cell? (ad183.add (x71_3).toNat) = some (.int .u64 (rd (rd_L4 x8_2 ((rd_T105 l0_5 x49_2).f3)) x71_3))) (ds := []) #[false, false, false, false, false, false, false, false, false, false, false, false, false, false, false, false, false, false, false, false, false, false, false, false] (by kernel_rfl) rfl rfl ⟨(blk_cell BK165.out 0).trans rfl, (blk_cell BK165.out 1).trans rfl, (blk_cell BK165.out 2).trans rfl, (blk_cell BK165.out 3).trans rfl, (blk_cell BK165.out 4).trans rfl, (blk_cell BK165.out 5).trans rfl, (blk_cell BK176.out 0).trans rfl, (blk_cell BK176.out 1).trans rfl, (blk_cell BK176.out 2).trans rfl, (blk_cell BK176.out 3).trans rfl, (blk_cell BK176.out 4).trans rfl, hx180_0, hx181_0, hx182_0, hx183_0⟩ (fun hHeld => ?_); refine with_tabW witness_Run.tab23 witness_Run.bits23 (fun HT_ HW_ => ?_)
                         generalize wr.drew = w60 at HO_8 HO_13 HO_14 BK165 BK176 HB HL180_0 HL182_0 HR180_0 HR182_0 hx180_0 hx181_0 hx182_0 hx183_0 hHeld ⊢
                         refine pureA 2 (some 77) HT_.out ?_
                         refine pureA 3 (some 78) HT_.out ?_
                         refine pureA 7 (some 82) HT_.out ?_
                         refine pureA 10 (some 85) HT_.out ?_
                         refine pureA 11 (some 86) HT_.out ?_
                         refine pureA 15 (some 90) HT_.out ?_
                         refine takeA 0 (some 75) rfl HT_.out HW_.out hHeld (Or.inl ⟨by rfl, by rintro w' ⟨s0, s1, s2, s3, s4, s5, s6, s7, s8, s9, s10, s11, s12, s13, s14⟩; go_simp; with_reducible rfl⟩) ?_
                         refine takeA 1 (some 76) rfl HT_.out HW_.out hHeld (Or.inl ⟨by rfl, by rintro w' ⟨s0, s1, s2, s3, s4, s5, s6, s7, s8, s9, s10, s11, s12, s13, s14⟩; go_simp; with_reducible rfl⟩) ?_
                         refine takeA 4 (some 79) rfl HT_.out HW_.out hHeld (Or.inl ⟨by rfl, by rintro w' ⟨s0, s1, s2, s3, s4, s5, s6, s7, s8, s9, s10, s11, s12, s13, s14⟩; go_simp; with_reducible rfl⟩) ?_
                         refine pureA 5 (some 80) HT_.out ?_
                         refine takeA 6 (some 81) rfl HT_.out HW_.out hHeld (Or.inl ⟨by rfl, by rintro w' ⟨s0, s1, s2, s3, s4, s5, s6, s7, s8, s9, s10, s11, s12, s13, s14⟩; go_simp; with_reducible rfl⟩) ?_
                         refine pureA 8 (some 83) HT_.out ?_
                         refine takeA 9 (some 84) rfl HT_.out HW_.out hHeld (Or.inl ⟨by rfl, by rintro w' ⟨s0, s1, s2, s3, s4, s5, s6, s7, s8, s9, s10, s11, s12, s13, s14⟩; go_simp; with_reducible rfl⟩) ?_
                         refine takeA 12 (some 87) rfl HT_.out HW_.out hHeld (Or.inl ⟨by rfl, by rintro w' ⟨s0, s1, s2, s3, s4, s5, s6, s7, s8, s9, s10, s11, s12, s13, s14⟩; go_simp; with_reducible rfl⟩) ?_
                         refine pureA 13 (some 88) HT_.out ?_
                         refine takeA 14 (some 89) rfl HT_.out HW_.out hHeld (Or.inl ⟨by rfl, by rintro w' ⟨s0, s1, s2, s3, s4, s5, s6, s7, s8, s9, s10, s11, s12, s13, s14⟩; go_simp; with_reducible rfl⟩) ?_
                         refine pureA 16 (some 91) HT_.out ?_
                         refine takeA 17 (some 92) rfl HT_.out HW_.out hHeld (Or.inl ⟨by rfl, by rintro w' ⟨s0, s1, s2, s3, s4, s5, s6, s7, s8, s9, s10, s11, s12, s13, s14⟩; go_simp; with_reducible rfl⟩) ?_
                         refine one_ (i := 18) (N := some 93) #[true, true, true, true, true, true, true, true, true, true, true, true, true, true, true, true, true, true, true, false, false, false, false, false] rfl rfl (one_of HT_.out (by kernel_rfl)) (by decide) (fun K hK => ?_)
                         refine goes_ Try.func68 (by kernel_rfl) rfl #[.agg #[.int .i64 a0_0, .int .i64 a0_1, .int .i64 a0_2, .int .i64 a0_3, .int .i64 a0_4, .slice (some ad175) l0_5.length c0_5], .agg #[.int .i64 ((rd_T105 l0_5 x49_2).f0), .int .i64 ((rd_T105 l0_5 x49_2).f1), .int .i64 ((rd_T105 l0_5 x49_2).f2), .int .i64 ((rd_T105 l0_5 x49_2).f3), .int .i64 ((rd_T105 l0_5 x49_2).f4)], .int .u64 (rd (rd_L4 x8_2 ((rd_T105 l0_5 x49_2).f2)) x71_3), .int .u64 (rd (rd_L4 x8_2 ((rd_T105 l0_5 x49_2).f3)) x71_3)] (by rfl) rfl rfl gsA ?_
                         with_reducible refine (witness_made.calls a0_0 a0_1 a0_2 a0_3 a0_4 _ _ l0_5 ((rd_T105 l0_5 x49_2).f0) ((rd_T105 l0_5 x49_2).f1) ((rd_T105 l0_5 x49_2).f2) ((rd_T105 l0_5 x49_2).f3) ((rd_T105 l0_5 x49_2).f4) (rd (rd_L4 x8_2 ((rd_T105 l0_5 x49_2).f2)) x71_3) (rd (rd_L4 x8_2 ((rd_T105 l0_5 x49_2).f3)) x71_3) t184 t185 _ ?side1 ?side2 A57.out).mono ?_
                         (case side1 => repeat (first | exact (Kd.C_below HR0_5.out HB.out) | (with_reducible refine Kd.C_alloc ?_ _) | (with_reducible refine Kd.C_drewN ?_ _) | (with_reducible refine Kd.C_drew ?_)))
                         (case side2 => exact HC0_5.out)
                         rintro e w62 ⟨rfl, hb⟩
                         have HS11_ := (hb.cell (World.block_lt_of_cell? _ _ (hHeld.2.2.2.2.2.2.2.2.2.2.2.1))).trans (hHeld.2.2.2.2.2.2.2.2.2.2.2.1); have HS12_ := (hb.cell (World.block_lt_of_cell? _ _ (hHeld.2.2.2.2.2.2.2.2.2.2.2.2.1))).trans (hHeld.2.2.2.2.2.2.2.2.2.2.2.2.1); have HS13_ := (hb.cell (World.block_lt_of_cell? _ _ (hHeld.2.2.2.2.2.2.2.2.2.2.2.2.2.1))).trans (hHeld.2.2.2.2.2.2.2.2.2.2.2.2.2.1); have HS14_ := (hb.cell (World.block_lt_of_cell? _ _ (hHeld.2.2.2.2.2.2.2.2.2.2.2.2.2.2))).trans (hHeld.2.2.2.2.2.2.2.2.2.2.2.2.2.2)
                         refine ⟨_, rfl, ?_⟩
                         have n0_ := Aside0.mk (Kd.S_below (by (with_reducible repeat (first | apply Kd.S_alloc | apply Kd.S_drewN | apply Kd.S_drew)); exact HO_8.out) hb)
                         have n1_ := Aside0.mk (Kd.R_below (raA HO_13.out) hb)
                         have n2_ := Aside0.mk (Kd.R_below (raA HO_14.out) hb)
                         have n3_ := Aside0.mk (Kd.R_below (raA HL180_0.out) hb)
                         have n4_ := Aside0.mk (Kd.R_below (raA HL182_0.out) hb)
                         have n5_ := Aside0.mk (blk_below (bkA BK165.out) hb); have n6_ := Aside0.mk (blk_below (bkA BK176.out) hb)
                         have n7_ := Aside0.mk (Kd.C_below (by repeat (first | (with_reducible exact HR180_0.out) | (with_reducible refine Kd.C_alloc ?_ _) | (with_reducible refine Kd.C_drewN ?_ _) | (with_reducible refine Kd.C_drew ?_) | exact HR180_0.out)) hb)
                         have n8_ := Aside0.mk (Kd.C_below (by repeat (first | (with_reducible exact HR182_0.out) | (with_reducible refine Kd.C_alloc ?_ _) | (with_reducible refine Kd.C_drewN ?_ _) | (with_reducible refine Kd.C_drew ?_) | exact HR182_0.out)) hb)
                         have n9_ := Aside0.mk (below_step (blA HB.out) hb); clear HO_8; clear HO_13; clear HO_14; clear HL180_0; clear HL182_0; clear BK165; clear BK176; clear HR180_0; clear HR182_0; clear HB; have HO_8 := n0_; have HO_13 := n1_; have HO_14 := n2_; have HL180_0 := n3_; have HL182_0 := n4_; have BK165 := n5_; have BK176 := n6_; have HR180_0 := n7_; have HR182_0 := n8_; have HB := n9_; clear n0_ n1_ n2_ n3_ n4_ n5_ n6_ n7_ n8_ n9_
                         (try clear hb)
                         refine hK.out _ _ ⟨(blk_cell BK165.out 0).trans rfl, (blk_cell BK165.out 1).trans rfl, (blk_cell BK165.out 2).trans rfl, (blk_cell BK165.out 3).trans rfl, (blk_cell BK165.out 4).trans rfl, (blk_cell BK165.out 5).trans rfl, (blk_cell BK176.out 0).trans rfl, (blk_cell BK176.out 1).trans rfl, (blk_cell BK176.out 2).trans rfl, (blk_cell BK176.out 3).trans rfl, (blk_cell BK176.out 4).trans rfl, HS11_, HS12_, HS13_, HS14_⟩ (fun hHeld => ?_)
                         clear hK K
                         refine normA ?_
                         refine pureA 19 (some 74) HT_.out ?_
                         refine pureA 20 (some 94) HT_.out ?_
                         refine pureA 21 (some 95) HT_.out ?_
                         refine pureA 22 (some 16) HT_.out ?_
                         refine pureA 23 (some 17) HT_.out ?_
                         refine done_ (done_of HT_.out (by kernel_rfl)) ?_
                         try go_wp2_with (first | ((with_reducible refine gate_builtin (b := .append) (xs := #[.tmp 96, .tmp 98]) rfl ?_); at_builtin; refine Kd.R_append (Kd.int .u64) (w0 := w) w.heap.size rfl (.tmp 96) (.tmp 98) 68 43 (.int .u64 0) 8 rfl Try.underlying68 info43 rfl (by decide) (by omega) u13 x13_3 t184 [.int .u64 t184] (fun k_ => some k_ ≠ (u14 : Value).ownBlock) (fun _ => False) rfl rfl ?aP (fun _ hk => hk.elim) ?aF ?aO ?aB ?aS ?aL ?_; (case aP => exact rfl); (case aB => exact (blA HB.out)); (case aF => exact (fun k_ hk => Kd.fresh' (Kd.R_lt (raA HO_14.out)) k_ hk)); (case aO => exact (raA HO_13.out)); (case aS => exact (below_size (blA HB.out))); (case aL => have := LMc58.out; omega); intro v187 w63 ho hb hg hat; rw [← Ny186.out] at ho; have n0_ := Aside0.mk (Kd.S_after (ok := (fun k_ => some k_ ≠ (u14 : Value).ownBlock)) (by (with_reducible repeat (first | apply Kd.S_alloc | apply Kd.S_drewN | apply Kd.S_drew)); exact Kd.S_mono HO_8.out (fun _ hk => ⟨hk.2, hk.1⟩)) hg hat); have n1_ := Aside0.mk (Kd.R_after (ok := (fun _ => True)) (by (with_reducible repeat (first | apply Kd.R_alloc | apply Kd.R_drewN | apply Kd.R_drew)); exact Kd.R_mono HO_14.out (fun _ hk => ⟨trivial, hk⟩)) hg hat); have n2_ := Aside0.mk (blk_grown (bkA BK165.out) hg (Kd.R_ne HO_13.out BK165.out (by decide))); have n3_ := Aside0.mk (blk_grown (bkA BK176.out) hg (Kd.R_ne HO_13.out BK176.out (by decide))); have n4_ := Aside0.mk (Kd.R_after (ok := (fun k_ => some k_ ≠ (.slice (some ad180) x8_2.length co61 : Value).ownBlock ∧ some k_ ≠ (u14 : Value).ownBlock)) (by (with_reducible repeat (first | apply Kd.R_alloc | apply Kd.R_drewN | apply Kd.R_drew)); exact Kd.R_mono HL180_0.out (fun _ hk => ⟨⟨hk.2, hk.1.2⟩, hk.1.1⟩)) hg hat); have n5_ := Aside0.mk (Kd.R_after (ok := (fun k_ => some k_ ≠ (.slice (some ad180) x8_2.length co61 : Value).ownBlock ∧ some k_ ≠ (u14 : Value).ownBlock)) (by (with_reducible repeat (first | apply Kd.R_alloc | apply Kd.R_drewN | apply Kd.R_drew)); exact Kd.R_mono HL182_0.out (fun _ hk => ⟨⟨hk.2, hk.1.2⟩, hk.1.1⟩)) hg hat); have n6_ := Aside0.mk (hb); have n7_ := Aside0.mk (ho); clear HO_8; clear HO_14; clear BK165; clear BK176; clear HL180_0; clear HL182_0; clear HB; clear HO_13; have HO_8 := n0_; have HO_14 := n1_; have BK165 := n2_; have BK176 := n3_; have HL180_0 := n4_; have HL182_0 := n5_; have HB := n6_; have HO188 := n7_; clear n0_ n1_ n2_ n3_ n4_ n5_ n6_ n7_; clear ho hb hg hat) | ((with_reducible refine gate_builtin (b := .append) (xs := #[.tmp 100, .tmp 102]) rfl ?_); at_builtin; refine Kd.R_append (Kd.int .u64) (w0 := w) w.heap.size rfl (.tmp 100) (.tmp 102) 68 43 (.int .u64 0) 8 rfl Try.underlying68 info43 rfl (by decide) (by omega) u14 x14_3 t185 [.int .u64 t185] (fun k_ => some k_ ≠ (v187 : Value).ownBlock) (fun _ => False) rfl rfl ?aP (fun _ hk => hk.elim) ?aF ?aO ?aB ?aS ?aL ?_; (case aP => exact rfl); (case aB => exact (blA HB.out)); (case aF => exact (fun k_ hk => Kd.fresh' (Kd.R_lt (raA HO188.out)) k_ hk)); (case aO => exact (by (with_reducible repeat (first | apply Kd.R_alloc | apply Kd.R_drewN | apply Kd.R_drew)); exact Kd.R_mono HO_14.out (fun _ hk => hk.2))); (case aS => exact (below_size (blA HB.out))); (case aL => have := LMc59.out; omega); intro v190 w64 ho hb hg hat; rw [← Ny189.out] at ho; have n0_ := Aside0.mk (Kd.S_after (ok := (fun k_ => some k_ ≠ (v187 : Value).ownBlock)) (by (with_reducible repeat (first | apply Kd.S_alloc | apply Kd.S_drewN | apply Kd.S_drew)); exact Kd.S_mono HO_8.out (fun _ hk => ⟨hk.2, hk.1⟩)) hg hat); have n1_ := Aside0.mk (blk_grown (bkA BK165.out) hg (Kd.R_ne HO_14.out BK165.out (by decide))); have n2_ := Aside0.mk (blk_grown (bkA BK176.out) hg (Kd.R_ne HO_14.out BK176.out (by decide))); have n3_ := Aside0.mk (Kd.R_after (ok := (fun k_ => some k_ ≠ (.slice (some ad180) x8_2.length co61 : Value).ownBlock ∧ some k_ ≠ (v187 : Value).ownBlock)) (by (with_reducible repeat (first | apply Kd.R_alloc | apply Kd.R_drewN | apply Kd.R_drew)); exact Kd.R_mono HL180_0.out (fun _ hk => ⟨⟨hk.1.1, hk.2⟩, hk.1.2⟩)) hg hat); have n4_ := Aside0.mk (Kd.R_after (ok := (fun k_ => some k_ ≠ (.slice (some ad180) x8_2.length co61 : Value).ownBlock ∧ some k_ ≠ (v187 : Value).ownBlock)) (by (with_reducible repeat (first | apply Kd.R_alloc | apply Kd.R_drewN | apply Kd.R_drew)); exact Kd.R_mono HL182_0.out (fun _ hk => ⟨⟨hk.1.1, hk.2⟩, hk.1.2⟩)) hg hat); have n5_ := Aside0.mk (Kd.R_after (ok := (fun _ => True)) (by (with_reducible repeat (first | apply Kd.R_alloc | apply Kd.R_drewN | apply Kd.R_drew)); exact Kd.R_mono HO188.out (fun _ hk => ⟨trivial, hk⟩)) hg hat); have n6_ := Aside0.mk (hb); have n7_ := Aside0.mk (ho); clear HO_8; clear BK165; clear BK176; clear HL180_0; clear HL182_0; clear HO188; clear HB; clear HO_14; have HO_8 := n0_; have BK165 := n1_; have BK176 := n2_; have HL180_0 := n3_; have HL182_0 := n4_; have HO188 := n5_; have HB := n6_; have HO191 := n7_; clear n0_ n1_ n2_ n3_ n4_ n5_ n6_ n7_; clear ho hb hg hat))
                         go_roundg k3
                         case measure => have := HK1.out; have := HK2.out; have := HK3.out; omega
                         case rel => exact ⟨(y186), (y189), (wrap64 (x71_3 + 1)), eqA, H', ⟨by have := HK1.out; have := HK2.out; have := HK3.out; omega⟩, ⟨by (with_reducible repeat (first | apply Kd.S_alloc | apply Kd.S_drewN | apply Kd.S_drew)); exact HO_8.out⟩, ⟨by (with_reducible repeat (first | apply Kd.R_alloc | apply Kd.R_drewN | apply Kd.R_drew)); exact Kd.R_mono HO188.out (fun _ hk => hk.2)⟩, ⟨raA HO191.out⟩, ⟨bkA BK165.out⟩, ⟨bkA BK176.out⟩, ⟨blA HB.out⟩⟩
                        ·rw [if_neg c59] at H
                         exact absurd H (by simp)
                       ·rw [if_neg c58] at H
                        exact absurd H (by simp)
                      ·rw [if_neg c56] at H
                       exact absurd H (by simp)
                     ·rw [if_neg c55] at H
                      exact absurd H (by simp)
                    ·rw [if_neg c54] at H
                     exact absurd H (by simp)
                   ·rw [if_neg c53] at H
                    exact absurd H (by simp)
                  ·rw [if_neg c52] at H
                   exact absurd H (by simp)
                 ·rw [if_neg c51] at H
                  exact absurd H (by simp)
                ·rw [if_neg c50] at H
                 exact absurd H (by simp)
               ·rw [if_neg c49] at H
                have c49b0 : decide (x71_3 < ji44) = false := decide_eq_false c49; clear c49
                by_cases c65 : x8_2.length < 5864062014805
                ·rw [if_pos c65] at H
                 have LMc65 := Aside0.mk c65; clear c65
                 obtain ⟨y192, hy192⟩ : ∃ y_ : List (List Int), y_ = (x8_2 ++ [x13_3]) := ⟨_, rfl⟩
                 replace H : (if ((rd_T105 l0_5 x49_2).f0) = 7 then (if y192.length < 5864062014805 then (witness_Run.l1 k3 (y192 ++ [x14_3]) l0_5 (l0_5.length : Int) (wrap64 (x49_2 + 1)) a0_0 a0_1 a0_2 a0_3 a0_4 l0_5) else (none)) else (witness_Run.l1 k3 y192 l0_5 (l0_5.length : Int) (wrap64 (x49_2 + 1)) a0_0 a0_1 a0_2 a0_3 a0_4 l0_5)) = some (r1, r2) := by first | (rw [hy192]; with_reducible exact H) | (have H2_ := (Option.bind_some _ _).symm.trans H; rw [hy192]; with_reducible exact H2_) | (have H2_ := (Option.bind_some _ _).symm.trans H; with_reducible exact H2_) | with_reducible exact H | (rw [hy192]; exact H) | exact H
                 have Ny192 := Aside0.mk hy192; clear hy192
                 by_cases c66 : ((rd_T105 l0_5 x49_2).f0) = 7
                 ·rw [if_pos c66] at H
                  have c66b0 : (((rd_T105 l0_5 x49_2).f0) == 7) = true := beq_iff_eq.mpr c66; have c66b1 : (((rd_T105 l0_5 x49_2).f0) != 7) = false := bne_eq_false_iff_eq.mpr c66; clear c66
                  by_cases c67 : y192.length < 5864062014805
                  ·rw [if_pos c67] at H
                   have LMc67 := Aside0.mk c67; clear c67
                   obtain ⟨y195, hy195⟩ : ∃ y_ : List (List Int), y_ = (y192 ++ [x14_3]) := ⟨_, rfl⟩
                   replace H : (witness_Run.l1 k3 y195 l0_5 (l0_5.length : Int) (wrap64 (x49_2 + 1)) a0_0 a0_1 a0_2 a0_3 a0_4 l0_5) = some (r1, r2) := by first | (rw [hy195]; with_reducible exact H) | (have H2_ := (Option.bind_some _ _).symm.trans H; rw [hy195]; with_reducible exact H2_) | (have H2_ := (Option.bind_some _ _).symm.trans H; with_reducible exact H2_) | with_reducible exact H | (rw [hy195]; exact H) | exact H
                   have Ny195 := Aside0.mk hy195; clear hy195; have H' := Aside0.mk H; clear H; obtain ⟨Ao69, co69, eo69⟩ := Kd.R_slice HO_13.out; subst eo69
                   go_wp2_with (first | ((with_reducible refine gate_builtin (b := .append) (xs := #[.tmp 105, .tmp 107]) rfl ?_); at_builtin; refine Kd.S_append (Kd.slice 43 (Kd.int .u64)) (w0 := w) w.heap.size rfl (.tmp 105) (.tmp 107) 56 68 (.slice none 0 0) 24 rfl Try.underlying56 info68 rfl (by decide) (by omega) u8 x8_2 x13_3 [.slice Ao69 x13_3.length co69] (fun k_ => some k_ ≠ (u14 : Value).ownBlock) (fun k_ => some k_ = (.slice Ao69 x13_3.length co69 : Value).ownBlock) rfl rfl ?aP (fun k_ hk_ => ((Kd.R_mono (ok' := fun k_ => ((fun k_ => some k_ ≠ (u14 : Value).ownBlock)) k_ ∧ some k_ ≠ (u8 : Value).ownBlock) (Kd.R_apart' (HO_13.out) (Kd.S_typed HO_8.out) (by decide)) (fun k_ hk => ⟨hk.1, hk.2⟩))).1 k_ hk_.symm) ?aF ?aO ?aB ?aS ?aL ?_; (case aP => exact Kd.M_row (Kd.R_mono (Kd.R_tight rfl (Kd.R_mono (ok' := fun k_ => ((fun k_ => some k_ ≠ (u14 : Value).ownBlock)) k_ ∧ some k_ ≠ (u8 : Value).ownBlock) (Kd.R_apart' (HO_13.out) (Kd.S_typed HO_8.out) (by decide)) (fun k_ hk => ⟨hk.1, hk.2⟩))) (fun _ h_ => h_))); (case aB => exact (blA HB.out)); (case aF => exact (fun k_ hk => Kd.fresh' (Kd.R_lt (raA HO_14.out)) k_ hk)); (case aO => exact (by (with_reducible repeat (first | apply Kd.S_alloc | apply Kd.S_drewN | apply Kd.S_drew)); exact Kd.S_mono HO_8.out (fun k_ hk => ⟨hk.2, fun e_ => hk.1 e_⟩))); (case aS => exact (below_size (blA HB.out))); (case aL => have := LMc65.out; omega); intro v193 w68 ho hb hg hat; rw [← Ny192.out] at ho; have n0_ := Aside0.mk (Kd.R_over' (raA HO_14.out) (Kd.S_typed (by (with_reducible repeat (first | apply Kd.S_alloc | apply Kd.S_drewN | apply Kd.S_drew)); exact HO_8.out)) (by decide) hg); have n1_ := Aside0.mk (blk_grown (bkA BK165.out) hg (Kd.S_ne HO_8.out BK165.out (by decide))); have n2_ := Aside0.mk (blk_grown (bkA BK176.out) hg (Kd.S_ne HO_8.out BK176.out (by decide))); have n3_ := Aside0.mk (hb); have n4_ := Aside0.mk (ho); clear HO_14; clear BK165; clear BK176; clear HB; clear HO_8; clear HO_13; have HO_14 := n0_; have BK165 := n1_; have BK176 := n2_; have HB := n3_; have HO194 := n4_; clear n0_ n1_ n2_ n3_ n4_; clear ho hb hg hat; have hnb70 := NB176_165.out; have hnc70 := NB165_176.out; have hcz71 := fun i => blk_cell BK176.out i; have hfz71 := fun i => blk_frozen BK176.out i; obtain ⟨Ao73, co73, eo73⟩ := Kd.R_slice HO_14.out; subst eo73) | ((with_reducible refine gate_builtin (b := .append) (xs := #[.tmp 112, .tmp 114]) rfl ?_); at_builtin; refine Kd.S_append (Kd.slice 43 (Kd.int .u64)) (w0 := w) w.heap.size rfl (.tmp 112) (.tmp 114) 56 68 (.slice none 0 0) 24 rfl Try.underlying56 info68 rfl (by decide) (by omega) v193 y192 x14_3 [.slice Ao73 x14_3.length co73] (fun _ => True) (fun k_ => some k_ = (.slice Ao73 x14_3.length co73 : Value).ownBlock) rfl rfl ?aP (fun k_ hk_ => ((Kd.R_mono (ok' := fun k_ => ((fun _ => True)) k_ ∧ some k_ ≠ (v193 : Value).ownBlock) (Kd.R_apart' (HO_14.out) (Kd.S_typed HO194.out) (by decide)) (fun k_ hk => ⟨trivial, hk.2⟩))).1 k_ hk_.symm) ?aF ?aO ?aB ?aS ?aL ?_; (case aP => exact Kd.M_row (Kd.R_mono (Kd.R_tight rfl (Kd.R_mono (ok' := fun k_ => ((fun _ => True)) k_ ∧ some k_ ≠ (v193 : Value).ownBlock) (Kd.R_apart' (HO_14.out) (Kd.S_typed HO194.out) (by decide)) (fun k_ hk => ⟨trivial, hk.2⟩))) (fun _ h_ => h_))); (case aB => exact (blA HB.out)); (case aF => exact (fun _ _ => trivial)); (case aO => exact (by (with_reducible repeat (first | apply Kd.S_alloc | apply Kd.S_drewN | apply Kd.S_drew)); exact Kd.S_mono HO194.out (fun k_ hk => ⟨trivial, fun e_ => hk e_⟩))); (case aS => exact (below_size (blA HB.out))); (case aL => have := LMc67.out; omega); intro v196 w72 ho hb hg hat; rw [← Ny195.out] at ho; have n0_ := Aside0.mk (blk_grown (bkA BK165.out) hg (Kd.S_ne HO194.out BK165.out (by decide))); have n1_ := Aside0.mk (blk_grown (bkA BK176.out) hg (Kd.S_ne HO194.out BK176.out (by decide))); have n2_ := Aside0.mk (hb); have n3_ := Aside0.mk (ho); clear BK165; clear BK176; clear HB; clear HO194; clear HO_14; have BK165 := n0_; have BK176 := n1_; have HB := n2_; have HO197 := n3_; clear n0_ n1_ n2_ n3_; clear ho hb hg hat))
                   go_roundg k3
                   case measure => have := HK1.out; have := HK2.out; have := HK3.out; omega
                   case rel => exact ⟨(y195), (wrap64 (x49_2 + 1)), eqA, H', ⟨by have := HK1.out; have := HK2.out; have := HK3.out; omega⟩, ⟨by (with_reducible repeat (first | apply Kd.S_alloc | apply Kd.S_drewN | apply Kd.S_drew)); exact HO197.out⟩, ⟨bkA BK165.out⟩, ⟨blA HB.out⟩⟩
                  ·rw [if_neg c67] at H
                   exact absurd H (by simp)
                 ·rw [if_neg c66] at H
                  have c66b0 : (((rd_T105 l0_5 x49_2).f0) == 7) = false := beq_eq_false_iff_ne.mpr c66; have c66b1 : (((rd_T105 l0_5 x49_2).f0) != 7) = true := bne_iff_ne.mpr c66; have H' := Aside0.mk H; clear H; obtain ⟨Ao75, co75, eo75⟩ := Kd.R_slice HO_13.out; subst eo75
                  go_wp2_with (first | ((with_reducible refine gate_builtin (b := .append) (xs := #[.tmp 105, .tmp 107]) rfl ?_); at_builtin; refine Kd.S_append (Kd.slice 43 (Kd.int .u64)) (w0 := w) w.heap.size rfl (.tmp 105) (.tmp 107) 56 68 (.slice none 0 0) 24 rfl Try.underlying56 info68 rfl (by decide) (by omega) u8 x8_2 x13_3 [.slice Ao75 x13_3.length co75] (fun k_ => some k_ ≠ (u14 : Value).ownBlock) (fun k_ => some k_ = (.slice Ao75 x13_3.length co75 : Value).ownBlock) rfl rfl ?aP (fun k_ hk_ => ((Kd.R_mono (ok' := fun k_ => ((fun k_ => some k_ ≠ (u14 : Value).ownBlock)) k_ ∧ some k_ ≠ (u8 : Value).ownBlock) (Kd.R_apart' (HO_13.out) (Kd.S_typed HO_8.out) (by decide)) (fun k_ hk => ⟨hk.1, hk.2⟩))).1 k_ hk_.symm) ?aF ?aO ?aB ?aS ?aL ?_; (case aP => exact Kd.M_row (Kd.R_mono (Kd.R_tight rfl (Kd.R_mono (ok' := fun k_ => ((fun k_ => some k_ ≠ (u14 : Value).ownBlock)) k_ ∧ some k_ ≠ (u8 : Value).ownBlock) (Kd.R_apart' (HO_13.out) (Kd.S_typed HO_8.out) (by decide)) (fun k_ hk => ⟨hk.1, hk.2⟩))) (fun _ h_ => h_))); (case aB => exact (blA HB.out)); (case aF => exact (fun k_ hk => Kd.fresh' (Kd.R_lt (raA HO_14.out)) k_ hk)); (case aO => exact (by (with_reducible repeat (first | apply Kd.S_alloc | apply Kd.S_drewN | apply Kd.S_drew)); exact Kd.S_mono HO_8.out (fun k_ hk => ⟨hk.2, fun e_ => hk.1 e_⟩))); (case aS => exact (below_size (blA HB.out))); (case aL => have := LMc65.out; omega); intro v193 w74 ho hb hg hat; rw [← Ny192.out] at ho; have n0_ := Aside0.mk (Kd.R_over' (raA HO_14.out) (Kd.S_typed (by (with_reducible repeat (first | apply Kd.S_alloc | apply Kd.S_drewN | apply Kd.S_drew)); exact HO_8.out)) (by decide) hg); have n1_ := Aside0.mk (blk_grown (bkA BK165.out) hg (Kd.S_ne HO_8.out BK165.out (by decide))); have n2_ := Aside0.mk (blk_grown (bkA BK176.out) hg (Kd.S_ne HO_8.out BK176.out (by decide))); have n3_ := Aside0.mk (hb); have n4_ := Aside0.mk (ho); clear HO_14; clear BK165; clear BK176; clear HB; clear HO_8; clear HO_13; have HO_14 := n0_; have BK165 := n1_; have BK176 := n2_; have HB := n3_; have HO194 := n4_; clear n0_ n1_ n2_ n3_ n4_; clear ho hb hg hat; have hnb76 := NB176_165.out; have hnc76 := NB165_176.out; have hcz77 := fun i => blk_cell BK176.out i; have hfz77 := fun i => blk_frozen BK176.out i; ))
                  go_roundg k3
                  case measure => have := HK1.out; have := HK2.out; have := HK3.out; omega
                  case rel => exact ⟨(y192), (wrap64 (x49_2 + 1)), eqA, H', ⟨by have := HK1.out; have := HK2.out; have := HK3.out; omega⟩, ⟨by (with_reducible repeat (first | apply Kd.S_alloc | apply Kd.S_drewN | apply Kd.S_drew)); exact Kd.S_mono HO194.out (fun _ hk => trivial)⟩, ⟨bkA BK165.out⟩, ⟨blA HB.out⟩⟩
                ·rw [if_neg c65] at H
                 exact absurd H (by simp)
            ·rw [if_neg c43] at H
             exact absurd H (by simp)
          ·rw [if_neg c23] at H
           exact absurd H (by simp)
         ·rw [if_neg c22] at H
          exact absurd H (by simp)
        ·rw [if_neg c21] at H
         have c21b0 : decide (x49_2 < (l0_5.length : Int)) = false := decide_eq_false c21; clear c21; have H' := Aside0.mk H; clear H
         go_wp2
         go_loopg [8] k2 (fun kq v8 w' => ∃ (x8_3 : List (List Int)), Aside0 (witness_Run.l3 kq x8_3 a0_0 a0_1 a0_2 a0_3 a0_4 l0_5 = some (r1, r2)) ∧ Aside0 (kq ≤ k2) ∧ Aside0 (Kd.S (Kd.slice 43 (Kd.int .u64)) 68 w' w.heap.size (fun _ => True) v8 x8_3) ∧ Aside0 (w'.heap[gb165]? = some (.cells #[.int .i64 a0_0, .int .i64 a0_1, .int .i64 a0_2, .int .i64 a0_3, .int .i64 a0_4, (.slice A0_5 l0_5.length c0_5)] 24 (0, 0))) ∧ Aside0 (Below w.heap.size w w'))
         case atStart => exact ⟨(x8_2), H', ⟨Nat.le_refl _⟩, ⟨by (with_reducible repeat (first | apply Kd.S_alloc | apply Kd.S_drewN | apply Kd.S_drew)); exact HO_8.out⟩, ⟨bkA BK165.out⟩, ⟨blA HB.out⟩⟩
         case round =>
          clear H'; (try clear c1); (try clear p1); (try clear q1); (try clear hx1); (try clear c2); (try clear p2); (try clear c3); (try clear c4); (try clear c4b1); (try clear c5); (try clear c6); (try clear c6b0); (try clear c6b1); (try clear p6); (try clear c7); (try clear c12); (try clear c12b0); (try clear c13); (try clear c13b0); (try clear c14); (try clear c14b0); (try clear c16); (try clear p16); (try clear q16); (try clear hx16); (try clear c17); (try clear p17); (try clear q17); (try clear hx17); (try clear c18); (try clear p18); (try clear q18); (try clear hx18); (try clear c21); (try clear c21b0); (try clear c22); (try clear c22b0); (try clear c23); (try clear c23b0); (try clear c24); (try clear c24b0); (try clear c24b1); (try clear c25); (try clear c25b0); (try clear c26); (try clear c26b0); (try clear c27); (try clear c27b0); (try clear c28); (try clear c28b0); (try clear c30); (try clear c32); (try clear c38); (try clear c43); (try clear c43b0); (try clear c43b1); (try clear c46); (try clear c49); (try clear c49b0); (try clear c50); (try clear c50b0); (try clear c51); (try clear c51b0); (try clear c52); (try clear c52b0); (try clear c53); (try clear c53b0); (try clear c54); (try clear c54b0); (try clear c55); (try clear c55b0); (try clear c56); (try clear c56b0); (try clear c58); (try clear c59); (try clear p64); (try clear c65); (try clear c66); (try clear c66b0); (try clear c66b1); (try clear c67); (try clear c68); (try clear c70); (try clear c76); (try clear hcz10); (try clear hcz20); (try clear hcz33); (try clear hcz39); (try clear hcz47); (try clear hcz48); (try clear hcz71); (try clear hcz77); (try clear hcz8); (try clear hfz10); (try clear hfz20); (try clear hfz33); (try clear hfz39); (try clear hfz47); (try clear hfz48); (try clear hfz71); (try clear hfz77); (try clear hfz8); (try clear hx168_0); (try clear hx175_0); (try clear hx175_1); (try clear hx175_2); (try clear hx175_3); (try clear hx175_4); (try clear hx177_0); (try clear hx178_0); (try clear hx180_0); (try clear hx181_0); (try clear hx182_0); (try clear hx183_0); (try clear p1); (try clear p16); (try clear p168); (try clear p17); (try clear p175); (try clear p177); (try clear p178); (try clear p180); (try clear p181); (try clear p182); (try clear p183); (try clear p2); (try clear p6); (try clear q1); (try clear q16); (try clear q168); (try clear q17); (try clear q175); (try clear q177); (try clear q178); (try clear q180); (try clear q181); (try clear q182); (try clear q183); obtain ⟨x8_3, HA, HK3, HO_8, BK165, HB⟩ := hrel
          cases gk with
          | zero => exact absurd HA.out (by simp [witness_Run.l3])
          | succ k3 =>
           have H := HA.out; clear HA
           simp only [witness_Run.l3] at H
           by_cases c78 : 0 ≤ a0_2
           ·rw [if_pos c78] at H
            have c78b0 := eq_true c78; have c78b1 : decide (0 ≤ a0_2) = true := decide_eq_true c78; clear c78
            obtain ⟨ji79, hji79⟩ : ∃ j_ : Int, (shl .i64 1 a0_2) = j_ := ⟨_, rfl⟩
            replace H : (if (x8_3.length : Int) < (ji79) then (if 0 ≤ a0_1 then (if 0 ≤ (shl .i64 1 a0_1) then (if (shl .i64 1 a0_1 : Int).toNat ≤ 35184372088832 then (if x8_3.length < 5864062014805 then (witness_Run.l3 k3 (x8_3 ++ [(List.replicate (shl .i64 1 a0_1 : Int).toNat 0)]) a0_0 a0_1 a0_2 a0_3 a0_4 l0_5) else (none)) else (none)) else (none)) else (none)) else (some (x8_3, 0))) = some (r1, r2) := by first | (rw [hji79] at H; exact H) | (simp only [hji79] at H ⊢; exact H)
            have hji79_ : (IntKind.i64.wrap (1 * 2 ^ min a0_2.toNat 64)) = ji79 := hji79; have hji79z : a0_2 ≤ 64 → (IntKind.i64.wrap (1 * 2 ^ a0_2.toNat)) = ji79 := shl_small hji79
            have hji79u : (IntKind.i64.wrap (2 ^ min a0_2.toNat 64)) = ji79 := by have h_ := hji79_; rw [Int.one_mul] at h_; exact h_
            have hji79v : a0_2 ≤ 64 → (IntKind.i64.wrap (2 ^ a0_2.toNat)) = ji79 := fun hle_ => by have h_ := hji79z hle_; rw [Int.one_mul] at h_; exact h_
            have hji79y : (wrap64 (1 * 2 ^ min a0_2.toNat 64)) = ji79 := (i64_w _).symm.trans hji79_
            have hji79x : a0_2 ≤ 64 → (wrap64 (1 * 2 ^ a0_2.toNat)) = ji79 := fun h_ => (i64_w _).symm.trans (hji79z h_)
            by_cases c80 : (x8_3.length : Int) < (ji79)
            ·rw [if_pos c80] at H
             have c80b0 : decide ((x8_3.length : Int) < (ji79)) = true := decide_eq_true c80; clear c80
             by_cases c81 : 0 ≤ a0_1
             ·rw [if_pos c81] at H
              have c81b0 := eq_true c81; have c81b1 : decide (0 ≤ a0_1) = true := decide_eq_true c81; clear c81
              obtain ⟨ji82, hji82⟩ : ∃ j_ : Int, (shl .i64 1 a0_1) = j_ := ⟨_, rfl⟩
              replace H : (if 0 ≤ (ji82) then (if (ji82 : Int).toNat ≤ 35184372088832 then (if x8_3.length < 5864062014805 then (witness_Run.l3 k3 (x8_3 ++ [(List.replicate (ji82 : Int).toNat 0)]) a0_0 a0_1 a0_2 a0_3 a0_4 l0_5) else (none)) else (none)) else (none)) = some (r1, r2) := by first | (rw [hji82] at H; exact H) | (simp only [hji82] at H ⊢; exact H)
              have hji82_ : (IntKind.i64.wrap (1 * 2 ^ min a0_1.toNat 64)) = ji82 := hji82; have hji82z : a0_1 ≤ 64 → (IntKind.i64.wrap (1 * 2 ^ a0_1.toNat)) = ji82 := shl_small hji82
              have hji82u : (IntKind.i64.wrap (2 ^ min a0_1.toNat 64)) = ji82 := by have h_ := hji82_; rw [Int.one_mul] at h_; exact h_
              have hji82v : a0_1 ≤ 64 → (IntKind.i64.wrap (2 ^ a0_1.toNat)) = ji82 := fun hle_ => by have h_ := hji82z hle_; rw [Int.one_mul] at h_; exact h_
              have hji82y : (wrap64 (1 * 2 ^ min a0_1.toNat 64)) = ji82 := (i64_w _).symm.trans hji82_
              have hji82x : a0_1 ≤ 64 → (wrap64 (1 * 2 ^ a0_1.toNat)) = ji82 := fun h_ => (i64_w _).symm.trans (hji82z h_)
              by_cases c83 : 0 ≤ (ji82)
              ·rw [if_pos c83] at H
               have c83b0 := eq_true c83; have c83b1 : decide (0 ≤ (ji82)) = true := decide_eq_true c83; clear c83
               by_cases c84 : (ji82 : Int).toNat ≤ 35184372088832
               ·rw [if_pos c84] at H
                have c84b0 := eq_true c84; have c84b1 : decide ((ji82 : Int).toNat ≤ 35184372088832) = true := decide_eq_true c84; clear c84
                obtain ⟨y198, hy198⟩ : ∃ y_ : List Int, y_ = (List.replicate (ji82 : Int).toNat 0) := ⟨_, rfl⟩
                replace H : (if x8_3.length < 5864062014805 then (witness_Run.l3 k3 (x8_3 ++ [y198]) a0_0 a0_1 a0_2 a0_3 a0_4 l0_5) else (none)) = some (r1, r2) := by first | (rw [hy198]; with_reducible exact H) | (have H2_ := (Option.bind_some _ _).symm.trans H; rw [hy198]; with_reducible exact H2_) | (have H2_ := (Option.bind_some _ _).symm.trans H; with_reducible exact H2_) | with_reducible exact H | (rw [hy198]; exact H) | exact H
                have Ny198 := Aside0.mk hy198; clear hy198
                by_cases c85 : x8_3.length < 5864062014805
                ·rw [if_pos c85] at H
                 have LMc85 := Aside0.mk c85; clear c85
                 obtain ⟨y201, hy201⟩ : ∃ y_ : List (List Int), y_ = (x8_3 ++ [y198]) := ⟨_, rfl⟩
                 replace H : (witness_Run.l3 k3 y201 a0_0 a0_1 a0_2 a0_3 a0_4 l0_5) = some (r1, r2) := by first | (rw [hy201]; with_reducible exact H) | (have H2_ := (Option.bind_some _ _).symm.trans H; rw [hy201]; with_reducible exact H2_) | (have H2_ := (Option.bind_some _ _).symm.trans H; with_reducible exact H2_) | with_reducible exact H | (rw [hy201]; exact H) | exact H
                 have Ny201 := Aside0.mk hy201; clear hy201; have H' := Aside0.mk H; clear H; obtain ⟨Ao86, co86, eo86⟩ := Kd.S_slice HO_8.out; subst eo86
                 have hcz87 := fun i => blk_cell BK165.out i
                 have hfz87 := fun i => blk_frozen BK165.out i
                 go_wp2_with (first | ((with_reducible refine gate_dst (N := 127) rfl ?_); refine Kd.R_make (Kd.int .u64) _ 43 rfl (N := 127) rfl 68 _ _ rfl ji82 rfl rfl Try.underlying68 (.int .u64 0) 8 info43 rfl (by decide) (by omega) 0 (ok := fun _ => True) (okp := fun _ => True) rfl (fun _ hk => hk) trivial (of_decide_eq_true (by first | (with_reducible assumption) | assumption)) (Nat.le_trans (Nat.mul_le_mul_right _ (of_decide_eq_true (by first | (with_reducible assumption) | assumption) : ji82.toNat ≤ 35184372088832)) (by omega)) (Below.refl _ _) (Nat.le_refl _) ?_; intro v199 w88 ho89 hb hg_ hnew_; clear hg_ hnew_; (first | rw [← Ny198.out] at ho89 | (simp only [Int.reduceToNat] at ho89; rw [← Ny198.out] at ho89)); have n0_ := Aside0.mk (Kd.S_elder' (by (with_reducible repeat (first | apply Kd.S_alloc | apply Kd.S_drewN | apply Kd.S_drew)); exact HO_8.out) (Kd.R_base ho89) hb); have n1_ := Aside0.mk (Kd.R_lower ho89 (below_size (blA HB.out))); have n2_ := Aside0.mk (blk_below (bkA BK165.out) hb); have n3_ := Aside0.mk (below_step (blA HB.out) hb); clear HO_8; clear BK165; clear HB; have HO_8 := n0_; have HO200 := n1_; have BK165 := n2_; have HB := n3_; clear n0_ n1_ n2_ n3_; clear hb ho89; obtain ⟨Ao91, co91, eo91⟩ := Kd.R_slice HO200.out; subst eo91) | ((with_reducible refine gate_builtin (b := .append) (xs := #[.tmp 123, .tmp 128]) rfl ?_); at_builtin; refine Kd.S_append (Kd.slice 43 (Kd.int .u64)) (w0 := w) w.heap.size rfl (.tmp 123) (.tmp 128) 56 68 (.slice none 0 0) 24 rfl Try.underlying56 info68 rfl (by decide) (by omega) (.slice Ao86 x8_3.length co86) x8_3 y198 [.slice Ao91 y198.length co91] (fun _ => True) (fun k_ => some k_ = (.slice Ao91 y198.length co91 : Value).ownBlock) rfl rfl ?aP (fun k_ hk_ => ((Kd.R_mono (ok' := fun k_ => ((fun _ => True)) k_ ∧ some k_ ≠ (.slice Ao86 x8_3.length co86 : Value).ownBlock) (Kd.R_apart' (HO200.out) (Kd.S_typed HO_8.out) (by decide)) (fun k_ hk => ⟨trivial, hk.2⟩))).1 k_ hk_.symm) ?aF ?aO ?aB ?aS ?aL ?_; (case aP => exact Kd.M_row (Kd.R_mono (Kd.R_tight rfl (Kd.R_mono (ok' := fun k_ => ((fun _ => True)) k_ ∧ some k_ ≠ (.slice Ao86 x8_3.length co86 : Value).ownBlock) (Kd.R_apart' (HO200.out) (Kd.S_typed HO_8.out) (by decide)) (fun k_ hk => ⟨trivial, hk.2⟩))) (fun _ h_ => h_))); (case aB => exact (blA HB.out)); (case aF => exact (fun _ _ => trivial)); (case aO => exact (by (with_reducible repeat (first | apply Kd.S_alloc | apply Kd.S_drewN | apply Kd.S_drew)); exact Kd.S_mono HO_8.out (fun k_ hk => ⟨trivial, fun e_ => hk.2 e_⟩))); (case aS => exact (below_size (blA HB.out))); (case aL => have := LMc85.out; omega); intro v202 w90 ho hb hg hat; rw [← Ny201.out] at ho; have n0_ := Aside0.mk (blk_grown (bkA BK165.out) hg (Kd.S_ne HO_8.out BK165.out (by decide))); have n1_ := Aside0.mk (hb); have n2_ := Aside0.mk (ho); clear BK165; clear HB; clear HO_8; clear HO200; have BK165 := n0_; have HB := n1_; have HO203 := n2_; clear n0_ n1_ n2_; clear ho hb hg hat))
                 go_roundg k3
                 case measure => have := HK1.out; have := HK2.out; have := HK3.out; omega
                 case rel => exact ⟨(y201), H', ⟨by have := HK1.out; have := HK2.out; have := HK3.out; omega⟩, ⟨by (with_reducible repeat (first | apply Kd.S_alloc | apply Kd.S_drewN | apply Kd.S_drew)); exact HO203.out⟩, ⟨bkA BK165.out⟩, ⟨blA HB.out⟩⟩
                ·rw [if_neg c85] at H
                 exact absurd H (by simp)
               ·rw [if_neg c84] at H
                exact absurd H (by simp)
              ·rw [if_neg c83] at H
               exact absurd H (by simp)
             ·rw [if_neg c81] at H
              exact absurd H (by simp)
            ·rw [if_neg c80] at H
             have c80b0 : decide ((x8_3.length : Int) < (ji79)) = false := decide_eq_false c80; clear c80
             simp only [Option.some.injEq, Prod.mk.injEq] at H
             obtain ⟨rfl, rfl⟩ := H; obtain ⟨Ao92, co92, eo92⟩ := Kd.S_slice HO_8.out; subst eo92
             have hcz93 := fun i => blk_cell BK165.out i
             have hfz93 := fun i => blk_frozen BK165.out i
             go_wp2
             go_ret2
             exact ⟨_, by first | rfl | (simp [errW_none, errW_some] <;> rfl) | (simp only [← hji79]; first | rfl | (simp [errW_none, errW_some] <;> rfl)) | (simp [*, errW_none, errW_some] <;> rfl), by (with_reducible repeat (first | apply Kd.S_alloc | apply Kd.S_drewN | apply Kd.S_drew)); exact HO_8.out, blA HB.out⟩
           ·rw [if_neg c78] at H
            exact absurd H (by simp)
  ·rw [if_neg c6] at H
   have c6b0 : (t167 == 0) = false := beq_eq_false_iff_ne.mpr c6; have c6b1 : (t167 != 0) = true := bne_iff_ne.mpr c6
   simp only [Option.some.injEq, Prod.mk.injEq] at H
   obtain ⟨rfl, rfl⟩ := H
   go_enter Try.func28, Try.ntmps28
   go_wp2_with (first | ((with_reducible refine gate_dst (N := 2) rfl ?_); refine box_event ?hg (N := 2) ?hd (cs := #[.int .i64 a0_0, .int .i64 a0_1, .int .i64 a0_2, .int .i64 a0_3, .int .i64 a0_4, .slice A0_5 l0_5.length c0_5]) (t := 24) ?hr ?_; (case hd => rfl); (case hg => rfl); (case hr => first | (go_simp; done) | (go_simp; rfl)); intro gb165 hg w94 hbox hb; have n0_ := Aside0.mk (below_step (blA HB.out) hb); have n1_ := Aside0.mk (hbox); have n2_ := Aside0.mk ((by rw [hg]; exact (below_size (blA HB.out)) : w.heap.size ≤ gb165)); have n3_ := Aside0.mk ((by rw [hg]; exact (below_size (blA HB.out)) : w.heap.size ≤ gb165)); clear HB; have HB := n0_; have BK165 := n1_; have GW165 := n2_; have GE165 := n3_; clear n0_ n1_ n2_ n3_; clear hb hbox hg; have hcz95 := fun i => blk_cell BK165.out i; have hfz95 := fun i => blk_frozen BK165.out i; ) | ((with_reducible refine gate_callee (f := 21) rfl ?_); refine goesL_ (some 19) rfl rfl Try.func21 (by kernel_rfl) rfl #[.agg #[.int .i64 a0_0, .int .i64 a0_1, .int .i64 a0_2, .int .i64 a0_3, .int .i64 a0_4, .slice A0_5 l0_5.length c0_5]] rfl gsA ?_; (with_reducible refine (circuit_Check.calls k a0_0 a0_1 a0_2 a0_3 a0_4 _ _ l0_5 t166 _ ?side1 ?side2 A3.out).mono ?_); (case side1 => repeat (first | exact (Kd.C_below HR0_5.out HB.out) | (with_reducible refine Kd.C_alloc ?_ _) | (with_reducible refine Kd.C_drewN ?_ _) | (with_reducible refine Kd.C_drew ?_))); (case side2 => exact HC0_5.out); rintro e w96 ⟨rfl, hb⟩; refine ⟨_, rfl, ?_⟩; have n0_ := Aside0.mk (blk_below (bkA BK165.out) hb); have n1_ := Aside0.mk (below_step (blA HB.out) hb); clear BK165; clear HB; have BK165 := n0_; have HB := n1_; clear n0_ n1_; (try clear hb); have hcz97 := fun i => blk_cell BK165.out i; have hfz97 := fun i => blk_frozen BK165.out i; ) | ((with_reducible refine gate_callee (f := 65) rfl ?_); refine goesL_ (some 30) rfl rfl Try.func65 (by kernel_rfl) rfl #[.agg #[.int .i64 a0_0, .int .i64 a0_1, .int .i64 a0_2, .int .i64 a0_3, .int .i64 a0_4, .slice A0_5 l0_5.length c0_5], .slice A1 l1.length c1, .int .i64 (wrap64 (a0_3 + a0_4))] rfl gsA ?_; (with_reducible refine (witness_fits.calls a0_0 a0_1 a0_2 a0_3 a0_4 _ _ l0_5 _ _ l1 (wrap64 (a0_3 + a0_4)) t167 _ ?side1 ?side2 ?side3 ?side4 A5.out).mono ?_); (case side1 => repeat (first | exact (Kd.C_below HR0_5.out HB.out) | (with_reducible refine Kd.C_alloc ?_ _) | (with_reducible refine Kd.C_drewN ?_ _) | (with_reducible refine Kd.C_drew ?_))); (case side2 => exact HC0_5.out); (case side3 => repeat (first | exact (Kd.C_below HR1.out HB.out) | (with_reducible refine Kd.C_alloc ?_ _) | (with_reducible refine Kd.C_drewN ?_ _) | (with_reducible refine Kd.C_drew ?_))); (case side4 => exact HC1.out); rintro e w98 ⟨rfl, hb⟩; refine ⟨_, rfl, ?_⟩; have n0_ := Aside0.mk (blk_below (bkA BK165.out) hb); have n1_ := Aside0.mk (below_step (blA HB.out) hb); clear BK165; clear HB; have BK165 := n0_; have HB := n1_; clear n0_ n1_; (try clear hb)))
   go_ret2
   exact ⟨_, by first | rfl | (simp [errW_none, errW_some] <;> rfl) | (simp [*, errW_none, errW_some] <;> rfl), by first | exact Kd.S_nil _ _ _ _ _ | exact Kd.N_nil _ _ _ _ _ | exact Kd.V_nil _ _ _ _ _ | exact Kd.Q_nil _ _ _ _ _ | exact Kd.R_nil _ _ _ _ _, blA HB.out⟩
 ·rw [if_neg c4] at H
  have c4b0 : (t166 == 0) = false := beq_eq_false_iff_ne.mpr c4; have c4b1 : (t166 != 0) = true := bne_iff_ne.mpr c4
  simp only [Option.some.injEq, Prod.mk.injEq] at H
  obtain ⟨rfl, rfl⟩ := H
  go_enter Try.func28, Try.ntmps28
  go_wp2_with (first | ((with_reducible refine gate_dst (N := 2) rfl ?_); refine box_event ?hg (N := 2) ?hd (cs := #[.int .i64 a0_0, .int .i64 a0_1, .int .i64 a0_2, .int .i64 a0_3, .int .i64 a0_4, .slice A0_5 l0_5.length c0_5]) (t := 24) ?hr ?_; (case hd => rfl); (case hg => rfl); (case hr => first | (go_simp; done) | (go_simp; rfl)); intro gb165 hg w99 hbox hb; have n0_ := Aside0.mk (below_step (blA HB.out) hb); have n1_ := Aside0.mk (hbox); have n2_ := Aside0.mk ((by rw [hg]; exact (below_size (blA HB.out)) : w.heap.size ≤ gb165)); have n3_ := Aside0.mk ((by rw [hg]; exact (below_size (blA HB.out)) : w.heap.size ≤ gb165)); clear HB; have HB := n0_; have BK165 := n1_; have GW165 := n2_; have GE165 := n3_; clear n0_ n1_ n2_ n3_; clear hb hbox hg; have hcz100 := fun i => blk_cell BK165.out i; have hfz100 := fun i => blk_frozen BK165.out i; ) | ((with_reducible refine gate_callee (f := 21) rfl ?_); refine goesL_ (some 19) rfl rfl Try.func21 (by kernel_rfl) rfl #[.agg #[.int .i64 a0_0, .int .i64 a0_1, .int .i64 a0_2, .int .i64 a0_3, .int .i64 a0_4, .slice A0_5 l0_5.length c0_5]] rfl gsA ?_; (with_reducible refine (circuit_Check.calls k a0_0 a0_1 a0_2 a0_3 a0_4 _ _ l0_5 t166 _ ?side1 ?side2 A3.out).mono ?_); (case side1 => repeat (first | exact (Kd.C_below HR0_5.out HB.out) | (with_reducible refine Kd.C_alloc ?_ _) | (with_reducible refine Kd.C_drewN ?_ _) | (with_reducible refine Kd.C_drew ?_))); (case side2 => exact HC0_5.out); rintro e w101 ⟨rfl, hb⟩; refine ⟨_, rfl, ?_⟩; have n0_ := Aside0.mk (blk_below (bkA BK165.out) hb); have n1_ := Aside0.mk (below_step (blA HB.out) hb); clear BK165; clear HB; have BK165 := n0_; have HB := n1_; clear n0_ n1_; (try clear hb)))
  go_ret2
  exact ⟨_, by first | rfl | (simp [errW_none, errW_some] <;> rfl) | (simp [*, errW_none, errW_some] <;> rfl), by first | exact Kd.S_nil _ _ _ _ _ | exact Kd.N_nil _ _ _ _ _ | exact Kd.V_nil _ _ _ _ _ | exact Kd.Q_nil _ _ _ _ _ | exact Kd.R_nil _ _ _ _ _, blA HB.out⟩
end Go.Proofs.Ythiiodgpdoljoaa.PLw
namespace Go.Proofs.Ythiiodgpdoljoaa.Bit
open Go Go.RowKit Go.Proofs.Ythiiodgpdoljoaa.PLw Go.Proofs.YthiiodgpdoljoaaW.PrintWords Go.Proofs.YthiiodgpdoljoaaW.PrintLast Go.Proofs.YthiiodgpdoljoaaW.PrintMore
set_option linter.unusedVariables false
set_option linter.unusedSimpArgs false
/-- What a gate makes of two words. -/
def mkA (w : Nat) (g : S105) (x y : Int) : Int := ((madeN (2 ^ w) g.f0 g.f4.toNat x.toNat y.toNat).1 : Int)
def mkB (w : Nat) (g : S105) (x y : Int) : Int := ((madeN (2 ^ w) g.f0 g.f4.toNat x.toNat y.toNat).2 : Int)
def atA (w : Nat) (g : S105) (all : List (List Int)) (i : Nat) : Int := mkA w g (rd (rd_L4 all g.f2) i) (rd (rd_L4 all g.f3) i)
def atB (w : Nat) (g : S105) (all : List (List Int)) (i : Nat) : Int := mkB w g (rd (rd_L4 all g.f2) i) (rd (rd_L4 all g.f3) i)
def colA (w R : Nat) (g : S105) (all : List (List Int)) : List Int := (List.range R).map (atA w g all)
def colB (w R : Nat) (g : S105) (all : List (List Int)) : List Int := (List.range R).map (atB w g all)
def newC (w R : Nat) (g : S105) (all : List (List Int)) : List (List Int) := colA w R g all :: (if g.f0 = 7 then [colB w R g all] else [])
/-- All columns behind some gates, or nothing. -/
def runG (w R : Nat) : List S105 → List (List Int) → Option (List (List Int))
  | [], all => some all
  | g :: gs, all => if g.f0 = 8 then (if rd_L4 all g.f2 = rd_L4 all g.f3 then runG w R gs all else none) else runG w R gs (all ++ newC w R g all)
def Good (w R : Nat) (all : List (List Int)) : Prop := ∀ c ∈ all, c.length = R ∧ ∀ x ∈ c, 0 ≤ x ∧ x < ((2 ^ 2 ^ w : Nat) : Int)
theorem gate_facts {wide cols n : Int} {g : S105} (h : gErr wide cols g n = 0) (hn : 0 ≤ n) : 1 ≤ g.f0 ∧ g.f0 ≤ 8 ∧ 0 ≤ g.f2 ∧ g.f2 < n ∧ 0 ≤ g.f3 ∧ g.f3 < n ∧ 0 ≤ g.f4 ∧ (g.f0 ≠ 8 → g.f1 = n) ∧ (g.f0 = 7 → g.f4 = n + 1) ∧ (4 ≤ g.f0 → g.f0 ≤ 6 → g.f4 < p2 wide) ∧ n + makes g.f0 ≤ p2 cols := by
  obtain ⟨f0, f1, f2, f3, f4⟩ := g
  have hf : f0 < 1 ∨ 8 < f0 ∨ f0 = 1 ∨ f0 = 2 ∨ f0 = 3 ∨ f0 = 4 ∨ f0 = 5 ∨ f0 = 6 ∨ f0 = 7 ∨ f0 = 8 := by omega
  unfold gErr makes fits at *
  rcases hf with h' | h' | rfl | rfl | rfl | rfl | rfl | rfl | rfl | rfl
  · simp [h'] at h
  · simp [h'] at h
  all_goals simp at h ⊢
  all_goals (repeat' (split at h))
  all_goals omega
theorem madeN_lt (n : Nat) (k : Int) (s x y : Nat) (hx : x < 2 ^ n) (hy : y < 2 ^ n) : (madeN n k s x y).1 < 2 ^ n ∧ (madeN n k s x y).2 < 2 ^ n := by
  have h0 : 0 < 2 ^ n := Nat.two_pow_pos n
  have h1 : 2 ^ n - 1 < 2 ^ n := by omega
  have h2 : x + y < 2 ^ (n + 1) := by rw [Nat.pow_succ]; omega
  have h3 : ((x + y) ^^^ x ^^^ y) < 2 ^ (n + 1) := Nat.xor_lt_two_pow (Nat.xor_lt_two_pow h2 (by rw [Nat.pow_succ]; omega)) (by rw [Nat.pow_succ]; omega)
  have h4 : ((x + y) ^^^ x ^^^ y) / 2 < 2 ^ n := by rw [Nat.pow_succ] at h3; omega
  unfold madeN
  repeat' split
  · exact ⟨Nat.xor_lt_two_pow hx hy, h0⟩
  · exact ⟨Nat.and_lt_two_pow _ hy, h0⟩
  · exact ⟨Nat.xor_lt_two_pow hx h1, h0⟩
  · exact ⟨Nat.and_lt_two_pow _ h1, h0⟩
  · exact ⟨Nat.lt_of_le_of_lt (by rw [Nat.shiftRight_eq_div_pow]; exact Nat.div_le_self _ _) hx, h0⟩
  · exact ⟨Nat.and_lt_two_pow _ h1, h0⟩
  · exact ⟨Nat.and_lt_two_pow _ h1, h4⟩
  · exact ⟨h0, h0⟩
theorem rd_nat (l : List Int) (i : Nat) (h : i < l.length) : rd l (i : Int) = l[i] := by simp [rd, List.getD_eq_getElem?_getD, h]
theorem rdL_nat (l : List (List Int)) (i : Nat) (h : i < l.length) : rd_L4 l (i : Int) = l[i] := by simp [rd_L4, List.getD_eq_getElem?_getD, h]
theorem rdL_int (l : List (List Int)) (a : Int) (h0 : 0 ≤ a) (h : a < l.length) : rd_L4 l a ∈ l := by
  obtain ⟨n, rfl⟩ := Int.eq_ofNat_of_zero_le h0
  rw [rdL_nat l n (by omega)]
  exact List.getElem_mem _
theorem good_at {w R : Nat} {all : List (List Int)} (G : Good w R all) {a : Int} (h0 : 0 ≤ a) (h : a < all.length) : (rd_L4 all a).length = R ∧ ∀ i : Nat, i < R → 0 ≤ rd (rd_L4 all a) i ∧ rd (rd_L4 all a) i < ((2 ^ 2 ^ w : Nat) : Int) := by
  have hm := rdL_int all a h0 h
  obtain ⟨h1, h2⟩ := G _ hm
  refine ⟨h1, fun i hi => ?_⟩
  rw [rd_nat _ i (by omega)]
  exact h2 _ (List.getElem_mem _)
theorem mk_lt {w : Nat} (g : S105) {x y : Int} (hx : 0 ≤ x ∧ x < ((2 ^ 2 ^ w : Nat) : Int)) (hy : 0 ≤ y ∧ y < ((2 ^ 2 ^ w : Nat) : Int)) : (0 ≤ mkA w g x y ∧ mkA w g x y < ((2 ^ 2 ^ w : Nat) : Int)) ∧ 0 ≤ mkB w g x y ∧ mkB w g x y < ((2 ^ 2 ^ w : Nat) : Int) := by
  have h := madeN_lt (2 ^ w) g.f0 g.f4.toNat x.toNat y.toNat (by omega) (by omega)
  unfold mkA mkB
  exact ⟨⟨by omega, by omega⟩, by omega, by omega⟩
theorem good_new {w R : Nat} {all : List (List Int)} (G : Good w R all) (g : S105) (h2 : 0 ≤ g.f2) (h2' : g.f2 < all.length) (h3 : 0 ≤ g.f3) (h3' : g.f3 < all.length) : Good w R (all ++ newC w R g all) := by
  have g2 := good_at G h2 h2'
  have g3 := good_at G h3 h3'
  have key : ∀ i, i < R → _ := fun i hi => mk_lt (w := w) g (g2.2 i hi) (g3.2 i hi)
  intro c hc
  rcases List.mem_append.mp hc with hc | hc
  · exact G c hc
  · have hc' : c = colA w R g all ∨ c = colB w R g all := by
      unfold newC at hc
      split at hc
      · simpa using hc
      · left; simpa using hc
    rcases hc' with rfl | rfl
    · refine ⟨by simp [colA], fun x hx => ?_⟩
      obtain ⟨i, hi, rfl⟩ := List.mem_map.mp hx
      exact (key i (List.mem_range.mp hi)).1
    · refine ⟨by simp [colB], fun x hx => ?_⟩
      obtain ⟨i, hi, rfl⟩ := List.mem_map.mp hx
      exact (key i (List.mem_range.mp hi)).2
theorem new_len (w R : Nat) (g : S105) (all : List (List Int)) (h8 : g.f0 ≠ 8) : ((all ++ newC w R g all).length : Int) = all.length + makes g.f0 := by
  unfold newC makes
  by_cases h7 : g.f0 = 7
  · rw [if_pos h7, if_neg h8, if_pos h7]; simp
  · rw [if_neg h7, if_neg h8, if_neg h7]; simp
theorem p2_nat (n : Int) : p2 n = ((2 ^ n.toNat : Nat) : Int) := by simp [p2]
theorem made_mk (w : Nat) (hw : w ≤ 5) (a1 a2 a3 a4 : Int) (l : List S105) (g : S105) (h1 : 1 ≤ g.f0) (h8 : g.f0 ≤ 8) (h8' : g.f0 ≠ 8) (h4 : 0 ≤ g.f4) (hs : 4 ≤ g.f0 → g.f0 ≤ 6 → g.f4 < p2 (w : Int)) {x y : Int} (hx : 0 ≤ x ∧ x < ((2 ^ 2 ^ w : Nat) : Int)) (hy : 0 ≤ y ∧ y < ((2 ^ 2 ^ w : Nat) : Int)) :
    witness_made.f (w : Int) a1 a2 a3 a4 l g.f0 g.f1 g.f2 g.f3 g.f4 x y = some (mkA w g x y, mkB w g x y) := by
  obtain ⟨x, rfl⟩ := Int.eq_ofNat_of_zero_le hx.1
  obtain ⟨y, rfl⟩ := Int.eq_ofNat_of_zero_le hy.1
  obtain ⟨s, hs'⟩ := Int.eq_ofNat_of_zero_le h4
  have := made_eq w hw a1 a2 a3 a4 l g.f0 g.f1 g.f2 g.f3 s x y h1 (by omega) (fun a b => by have := hs a b; rw [p2_nat] at this; simp only [Int.toNat_natCast] at this; omega) (by omega) (by omega)
  rw [hs']
  rw [this]
  simp only [mkA, mkB, hs', Int.toNat_natCast]
theorem made_ref (w : Nat) (hw : w ≤ 5) (a1 a2 a3 a4 : Int) (l : List S106) (g : S105) (h1 : 1 ≤ g.f0) (h8 : g.f0 ≤ 8) (h8' : g.f0 ≠ 8) (h4 : 0 ≤ g.f4) (hs : 4 ≤ g.f0 → g.f0 ≤ 6 → g.f4 < p2 (w : Int)) {x y : Int} (hx : 0 ≤ x ∧ x < ((2 ^ 2 ^ w : Nat) : Int)) (hy : 0 ≤ y ∧ y < ((2 ^ 2 ^ w : Nat) : Int)) :
    Ev (fun k => steepleref27_Made.f k (w : Int) a1 a2 a3 a4 l g.f0 g.f1 g.f2 g.f3 g.f4 x y) [mkA w g x y, mkB w g x y] := by
  obtain ⟨x, rfl⟩ := Int.eq_ofNat_of_zero_le hx.1
  obtain ⟨y, rfl⟩ := Int.eq_ofNat_of_zero_le hy.1
  obtain ⟨s, hs'⟩ := Int.eq_ofNat_of_zero_le h4
  have := madeRef w hw a1 a2 a3 a4 l g.f0 g.f1 g.f2 g.f3 s x y h1 (by omega) (fun a b => by have := hs a b; rw [p2_nat] at this; simp only [Int.toNat_natCast] at this; omega) (by omega) (by omega)
  rw [hs']
  simp only [mkA, mkB, hs', Int.toNat_natCast]
  exact this
/-! Two columns, the same. -/
theorem equalLoop (a b : List Int) (hl : a.length = b.length) (hn : a.length ≤ 1000) (d : Nat) : ∀ i : Nat, a.length - i = d → i ≤ a.length →
    Ev (fun k => slices_Equal_uint64_uint64.l0 k a b (a.length : Int) (i : Int)) (decide (a.drop i = b.drop i)) := by
  induction d with
  | zero =>
    intro i hd hi
    refine evFuel 1 fun m => ?_
    simp only [slices_Equal_uint64_uint64.l0]
    rw [if_neg (by omega), List.drop_of_length_le (by omega), List.drop_of_length_le (by omega)]
    rfl
  | succ d ih =>
    intro i hd hi
    have ha : i < a.length := by omega
    have hb : i < b.length := by omega
    have w1 : wrap64 ((i : Int) + 1) = ((i + 1 : Nat) : Int) := by rw [w64 (by omega) (by omega)]; omega
    obtain ⟨K, hK⟩ := ih (i + 1) (by omega) (by omega)
    dsimp only at hK
    refine ⟨K + 1, fun k hk => ?_⟩
    obtain ⟨k, rfl⟩ : ∃ m, k = m + 1 := ⟨k - 1, by omega⟩
    have hr := hK k (by omega)
    simp only [slices_Equal_uint64_uint64.l0]
    rw [if_pos (by omega), if_pos (by omega), if_pos (by omega), if_pos (by omega), rd_nat a i ha, rd_nat b i hb, w1, List.drop_eq_getElem_cons ha, List.drop_eq_getElem_cons hb]
    by_cases he : a[i] = b[i]
    · rw [if_pos he, hr]
      exact congrArg some (decide_eq_decide.mpr (by rw [List.cons.injEq]; exact ⟨fun h => ⟨he, h⟩, fun h => h.2⟩))
    · rw [if_neg he]
      exact congrArg some (decide_eq_false (fun h => he (by rw [List.cons.injEq] at h; exact h.1))).symm
theorem equal_ev (a b : List Int) (hl : a.length = b.length) (hn : a.length ≤ 1000) : Ev (fun k => slices_Equal_uint64_uint64.f k a b) (decide (a = b)) := by
  obtain ⟨K, hK⟩ := equalLoop a b hl hn a.length 0 (by omega) (by omega)
  dsimp only at hK
  refine ⟨K, fun k hk => ?_⟩
  dsimp only
  unfold slices_Equal_uint64_uint64.f
  rw [if_pos (by omega)]
  have := hK k hk
  simpa using this
end Go.Proofs.Ythiiodgpdoljoaa.Bit
namespace Go.Proofs.Ythiiodgpdoljoaa.Bit
open Go Go.RowKit Go.Proofs.Ythiiodgpdoljoaa.PLw Go.Proofs.YthiiodgpdoljoaaW.PrintWords Go.Proofs.YthiiodgpdoljoaaW.PrintLast Go.Proofs.YthiiodgpdoljoaaW.PrintMore
set_option linter.unusedVariables false
set_option linter.unusedSimpArgs false
/-- The bounds of a system that may be. -/
structure Cx (w R C : Nat) (rows cols : Int) : Prop where
  hw : w ≤ 5
  hr0 : 0 ≤ rows
  hr4 : rows ≤ 4
  hc0 : 0 ≤ cols
  hc6 : cols ≤ 6
  hR : p2 rows = (R : Int)
  hC : p2 cols = (C : Int)
set_option maxHeartbeats 4000000 in
theorem progRows (w : Nat) (rows cols pub priv : Int) (R C : Nat) (cx : Cx w R C rows cols) (l : List S105) (hl : l.length ≤ 1000) (all : List (List Int)) (hal : all.length ≤ 100) (G : Good w R all) (g : S105) (h1 : 1 ≤ g.f0) (h8 : g.f0 ≤ 8) (h8' : g.f0 ≠ 8) (h2 : 0 ≤ g.f2) (h2' : g.f2 < all.length) (h3 : 0 ≤ g.f3) (h3' : g.f3 < all.length) (h4 : 0 ≤ g.f4) (hs : 4 ≤ g.f0 → g.f0 ≤ 6 → g.f4 < p2 (w : Int)) (gi : Int)
    (r : List (List Int) × Int) (h : Ev (fun k => witness_Run.l1 k (all ++ newC w R g all) l (l.length : Int) (wrap64 (gi + 1)) (w : Int) rows cols pub priv l) r) (d : Nat) : ∀ i : Nat, R - i = d → i ≤ R →
    Ev (fun k => witness_Run.l2 k all ((List.range i).map (atA w g all)) ((List.range i).map (atB w g all)) l (l.length : Int) gi (R : Int) (i : Int) (w : Int) rows cols pub priv l g.f0 g.f1 g.f2 g.f3 g.f4) r := by
  have ⟨hw, hr0, hr4, hc0, hc6, hR, hC⟩ := cx
  have hRb : R ≤ 64 := by have := p2_bound hr0 (show rows ≤ 6 by omega); omega
  have g2 := good_at G h2 h2'
  have g3 := good_at G h3 h3'
  induction d with
  | zero =>
    intro i hd hi
    obtain rfl : i = R := by omega
    obtain ⟨K, hK⟩ := h
    dsimp only at hK
    refine ⟨K + 1, fun k hk => ?_⟩
    obtain ⟨k, rfl⟩ : ∃ m, k = m + 1 := ⟨k - 1, by omega⟩
    have hr := hK k (by omega)
    simp only [witness_Run.l2]
    rw [if_neg (by omega), if_pos (by omega)]
    simp only [Option.bind_some]
    by_cases h7 : g.f0 = 7
    · rw [if_pos h7, if_pos (by simp; omega)]
      simp only [newC, if_pos h7, colA, colB] at hr
      rw [List.append_assoc]
      exact hr
    · rw [if_neg h7]
      simp only [newC, if_neg h7, colA] at hr
      exact hr
  | succ d ih =>
    intro i hd hi
    obtain ⟨K, hK⟩ := ih (i + 1) (by omega) (by omega)
    dsimp only at hK
    refine ⟨K + 1, fun k hk => ?_⟩
    obtain ⟨k, rfl⟩ : ∃ m, k = m + 1 := ⟨k - 1, by omega⟩
    have hr := hK k (by omega)
    rw [List.range_succ, List.map_append, List.map_append] at hr
    simp only [witness_Run.l2]
    rw [if_pos (by omega), if_pos h2, if_pos h2', if_pos (by omega), if_pos (by omega), if_pos h3, if_pos h3', if_pos (by omega), made_mk w hw rows cols pub priv l g h1 h8 h8' h4 hs (g2.2 i (by omega)) (g3.2 i (by omega))]
    simp only [Option.bind_some]
    rw [if_pos (by simp; omega), if_pos (by simp; omega), show wrap64 ((i : Int) + 1) = ((i + 1 : Nat) : Int) from by rw [w64 (by omega) (by omega)]; omega]
    exact hr
set_option maxHeartbeats 4000000 in
theorem progZeros (w : Nat) (rows cols pub priv : Int) (R C : Nat) (cx : Cx w R C rows cols) (l : List S105) (hl : l.length ≤ 1000) (d : Nat) : ∀ all : List (List Int), C - all.length = d → all.length ≤ C →
    Ev (fun k => witness_Run.l3 k all (w : Int) rows cols pub priv l) (all ++ List.replicate (C - all.length) (List.replicate R 0), 0) := by
  have ⟨hw, hr0, hr4, hc0, hc6, hR, hC⟩ := cx
  have hb := p2_bound hc0 hc6
  have hRb := p2_bound hr0 (show rows ≤ 6 by omega)
  induction d with
  | zero =>
    intro all hd hi
    refine evFuel 1 fun m => ?_
    simp only [witness_Run.l3]
    rw [if_pos hc0, shl_p2 hc0 hc6, if_neg (by omega), hd]
    simp
  | succ d ih =>
    intro all hd hi
    obtain ⟨K, hK⟩ := ih (all ++ [List.replicate R 0]) (by simp; omega) (by simp; omega)
    dsimp only at hK
    refine ⟨K + 1, fun k hk => ?_⟩
    obtain ⟨k, rfl⟩ : ∃ m, k = m + 1 := ⟨k - 1, by omega⟩
    have hr := hK k (by omega)
    simp only [witness_Run.l3]
    rw [if_pos hc0, shl_p2 hc0 hc6, shl_p2 hr0 (by omega), hR, if_pos (by omega), if_pos hr0, if_pos (by omega), if_pos (by omega), if_pos (by omega), Int.toNat_natCast, hr]
    rw [hd, List.length_append, List.length_singleton, show C - (all.length + 1) = d from by omega, List.append_assoc, List.replicate_succ]
    rfl
def finish (C R : Nat) : Option (List (List Int)) → List (List Int) × Int
  | none => ([], 7)
  | some all => (all ++ List.replicate (C - all.length) (List.replicate R 0), 0)
set_option maxHeartbeats 4000000 in
theorem progGates (w : Nat) (rows cols pub priv : Int) (R C : Nat) (cx : Cx w R C rows cols) (l : List S105) (hl : l.length ≤ 1000) (d : Nat) : ∀ (i : Nat) (all : List (List Int)), l.length - i = d → i ≤ l.length → Good w R all → all.length ≤ C → (walk (w : Int) cols (l.drop i) (all.length : Int)).2 = 0 →
    Ev (fun k => witness_Run.l1 k all l (l.length : Int) (i : Int) (w : Int) rows cols pub priv l) (finish C R (runG w R (l.drop i) all)) := by
  have ⟨hw, hr0, hr4, hc0, hc6, hR, hC⟩ := cx
  have hb := p2_bound hc0 hc6
  have hRb := p2_bound hr0 (show rows ≤ 6 by omega)
  induction d with
  | zero =>
    intro i all hd hi G ha hw0
    obtain ⟨K, hK⟩ := progZeros w rows cols pub priv R C cx l hl (C - all.length) all rfl ha
    dsimp only at hK
    refine ⟨K + 1, fun k hk => ?_⟩
    obtain ⟨k, rfl⟩ : ∃ m, k = m + 1 := ⟨k - 1, by omega⟩
    simp only [witness_Run.l1]
    rw [if_neg (by omega), List.drop_of_length_le (by omega), hK k (by omega)]
    rfl
  | succ d ih =>
    intro i all hd hi G ha hw0
    have hlt : i < l.length := by omega
    have q1 : l.length - (i + 1) = d := by omega
    have q2 : i + 1 ≤ l.length := by omega
    have q3 : (i : Int) < (l.length : Int) := by omega
    have q4 : (0 : Int) ≤ (i : Int) := by omega
    have w1 : wrap64 ((i : Int) + 1) = ((i + 1 : Nat) : Int) := by rw [w64 (by omega) (by omega)]; omega
    have hrd := rd105 l i hlt
    rw [List.drop_eq_getElem_cons hlt] at hw0 ⊢
    unfold walk at hw0
    by_cases hg : gErr (w : Int) cols l[i] (all.length : Int) = 0
    case neg => simp only [hg, if_false] at hw0
    simp only [hg, if_true] at hw0
    obtain ⟨f1, f8, f2, f2', f3, f3', f4, fd, f7, fs, fn⟩ := gate_facts hg (Int.natCast_nonneg _)
    have HW := Aside0.mk hw0; have HD := Aside0.mk fd; have H7 := Aside0.mk f7; have HS := Aside0.mk fs
    clear hg hw0 fd f7 fs
    by_cases h8 : l[i].f0 = 8
    · have hm0 : makes l[i].f0 = 0 := by rw [h8]; rfl
      have hw0 := HW.out
      rw [hm0, Int.add_zero] at hw0
      replace hw0 := Aside0.mk hw0
      clear HW
      have g2 := good_at G f2 f2'
      have g3 := good_at G f3 f3'
      obtain ⟨K2, hK2⟩ := equal_ev (rd_L4 all l[i].f2) (rd_L4 all l[i].f3) (by omega) (by omega)
      dsimp only at hK2
      obtain ⟨K, hK⟩ := ih (i + 1) all q1 q2 G ha hw0.out
      dsimp only at hK
      refine ⟨K + K2 + 1, fun k hk => ?_⟩
      obtain ⟨k, rfl⟩ : ∃ m, k = m + 1 := ⟨k - 1, by omega⟩
      have hr := hK k (by omega)
      have he := hK2 k (by omega)
      simp only [witness_Run.l1]
      rw [if_pos q3, if_pos q4, if_pos q3, hrd, if_pos h8, if_pos f2, if_pos f2', if_pos f3, if_pos f3', he]
      simp only [Option.bind_some, runG, if_pos h8]
      by_cases heq : rd_L4 all l[i].f2 = rd_L4 all l[i].f3
      · rw [if_pos heq, if_pos (decide_eq_true heq), w1]
        exact hr
      · rw [if_neg heq, if_neg (by simp [heq])]
        rfl
    · have hlen := new_len w R l[i] all h8
      have hw0 := HW.out
      rw [← hlen] at hw0
      replace hw0 := Aside0.mk hw0
      clear HW
      have hi' := ih (i + 1) (all ++ newC w R l[i] all) q1 q2 (good_new G l[i] f2 f2' f3 f3') (by omega) hw0.out
      have hrows := progRows w rows cols pub priv R C cx l hl all (by omega) G l[i] f1 f8 h8 f2 f2' f3 f3' f4 HS.out (i : Int) (finish C R (runG w R (l.drop (i + 1)) (all ++ newC w R l[i] all))) (by rw [w1]; exact hi') R 0 (by omega) (by omega)
      obtain ⟨K, hK⟩ := hrows
      dsimp only at hK
      refine ⟨K + 1, fun k hk => ?_⟩
      obtain ⟨k, rfl⟩ : ∃ m, k = m + 1 := ⟨k - 1, by omega⟩
      have hr := hK k (by omega)
      simp only [witness_Run.l1]
      rw [if_pos q3, if_pos q4, if_pos q3, hrd, if_neg h8, if_pos hr0, shl_p2 hr0 (by omega), hR]
      simp only [runG, if_neg h8]
      exact hr
set_option maxHeartbeats 4000000 in
theorem progCopy (w : Nat) (rows cols pub priv : Int) (R C : Nat) (cx : Cx w R C rows cols) (l : List S105) (hl : l.length ≤ 1000) (given : List (List Int)) (G : Good w R given) (hg : given.length ≤ C) (hw0 : (walk (w : Int) cols l (given.length : Int)).2 = 0) (d : Nat) : ∀ i : Nat, given.length - i = d → i ≤ given.length →
    Ev (fun k => witness_Run.l0 k (given.take i) given (given.length : Int) (i : Int) (w : Int) rows cols pub priv l) (finish C R (runG w R l given)) := by
  have ⟨hw, hr0, hr4, hc0, hc6, hR, hC⟩ := cx
  have hb := p2_bound hc0 hc6
  have hRb := p2_bound hr0 (show rows ≤ 6 by omega)
  induction d with
  | zero =>
    intro i hd hi
    obtain ⟨K, hK⟩ := progGates w rows cols pub priv R C cx l hl l.length 0 given (by omega) (by omega) G hg hw0
    dsimp only at hK
    refine ⟨K + 1, fun k hk => ?_⟩
    obtain ⟨k, rfl⟩ : ∃ m, k = m + 1 := ⟨k - 1, by omega⟩
    simp only [witness_Run.l0]
    rw [if_neg (by omega), List.take_of_length_le (by omega)]
    exact hK k (by omega)
  | succ d ih =>
    intro i hd hi
    have hlt : i < given.length := by omega
    obtain ⟨K, hK⟩ := ih (i + 1) (by omega) (by omega)
    dsimp only at hK
    refine ⟨K + 1, fun k hk => ?_⟩
    obtain ⟨k, rfl⟩ : ∃ m, k = m + 1 := ⟨k - 1, by omega⟩
    have hr := hK k (by omega)
    have hcl : slices_Clone_uint64_uint64.f given[i] = some given[i] := by
      unfold slices_Clone_uint64_uint64.f
      rw [if_pos (by have := (G _ (List.getElem_mem hlt)).1; omega)]
    simp only [witness_Run.l0]
    rw [if_pos (by omega), if_pos (by omega), if_pos (by omega), rdL_nat given i hlt, hcl]
    simp only [Option.bind_some]
    rw [if_pos (by simp; omega), show wrap64 ((i : Int) + 1) = ((i + 1 : Nat) : Int) from by rw [w64 (by omega) (by omega)]; omega, ← List.take_succ_eq_append_getElem hlt]
    exact hr
end Go.Proofs.Ythiiodgpdoljoaa.Bit
