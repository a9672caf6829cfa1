import Derived.Test.YthiiodgpdoljoaaKl1
import Derived.Test.YthiiodgpdoljoaaKl0
import Derived.Test.YthiiodgpdoljoaaKl3
-- Words and walks that the kit's print has laid for this seat, cut down, and our own texts, merged.
namespace Go.Proofs.Ythiiodgpdoljoaa.PLc
open Go.RowKit Go.Proofs.YthiiodgpdoljoaaW.PrintWords Go.Proofs.YthiiodgpdoljoaaW.PrintLast Go.Proofs.YthiiodgpdoljoaaW.PrintMore
attribute [local go_sem] max2_int min2_int max_two min_two max_three min_three max_four min_four   -- for this text's walks alone
set_option linter.unusedVariables false
set_option linter.unusedSimpArgs false
/-! ### steepleref25_System_Laid: function 63 -/
def steepleref25_System_Laid.j0 : Nat → List Int → Bool → Int → Int → Int → Int → Int → List (S106) → Int → Int → Int → Int → Int → Option ((List (List (S52))))
 | 0, _, _, _, _, _, _, _, _, _, _, _, _, _ => none
 | k + 1, x2, x16, x204000, x204001, x204002, x204003, x204004, x204005, x205000, x205001, x205002, x205003, x205004 => if x16 = true then (if 0 < (x2.length : Int) then ((steepleref25_v.f (rd x2 0)).bind fun bt207 => (if 1 < (x2.length : Int) then ((steepleref25_v.f (rd x2 1)).bind fun bt213 => ((steepleref25_plus.f 0 1).bind fun bt218 => (some (([(([(⟨bt207.1, bt207.2.1, bt207.2.2.1, (⟨bt207.2.2.2.1, bt207.2.2.2.2⟩ : S45)⟩ : S52), (⟨bt213.1, bt213.2.1, bt213.2.2.1, (⟨bt213.2.2.2.1, bt213.2.2.2.2⟩ : S45)⟩ : S52), (⟨bt218.1, bt218.2.1, bt218.2.2.1, (⟨bt218.2.2.2.1, bt218.2.2.2.2⟩ : S45)⟩ : S52)] : List (S52)))] : List (List (S52))))))) else (none))) else (none)) else (if x205000 = 3 then (if 0 < (x2.length : Int) then ((steepleref25_v.f (rd x2 0)).bind fun bt230 => (if 1 < (x2.length : Int) then ((steepleref25_v.f (rd x2 1)).bind fun bt236 => ((steepleref25_plus.f 0 1).bind fun bt241 => ((steepleref25_plus.f 2 3).bind fun bt246 => (some (([(([(⟨bt230.1, bt230.2.1, bt230.2.2.1, (⟨bt230.2.2.2.1, bt230.2.2.2.2⟩ : S45)⟩ : S52), (⟨bt236.1, bt236.2.1, bt236.2.2.1, (⟨bt236.2.2.2.1, bt236.2.2.2.2⟩ : S45)⟩ : S52), (⟨bt241.1, bt241.2.1, bt241.2.2.1, (⟨bt241.2.2.2.1, bt241.2.2.2.2⟩ : S45)⟩ : S52), (⟨1, 0, 0, (⟨0, 1⟩ : S45)⟩ : S52), (⟨bt246.1, bt246.2.1, bt246.2.2.1, (⟨bt246.2.2.2.1, bt246.2.2.2.2⟩ : S45)⟩ : S52)] : List (S52)))] : List (List (S52)))))))) else (none))) else (none)) else (if x205000 = 1 then (if 0 < (x2.length : Int) then ((steepleref25_v.f (rd x2 0)).bind fun bt258 => (if 1 < (x2.length : Int) then ((steepleref25_v.f (rd x2 1)).bind fun bt264 => ((steepleref25_plus.f 0 1).bind fun bt269 => (if 2 < (x2.length : Int) then ((steepleref25_v.f (rd x2 2)).bind fun bt275 => ((steepleref25_plus.f 2 3).bind fun bt280 => (some (([(([(⟨bt258.1, bt258.2.1, bt258.2.2.1, (⟨bt258.2.2.2.1, bt258.2.2.2.2⟩ : S45)⟩ : S52), (⟨bt264.1, bt264.2.1, bt264.2.2.1, (⟨bt264.2.2.2.1, bt264.2.2.2.2⟩ : S45)⟩ : S52), (⟨bt269.1, bt269.2.1, bt269.2.2.1, (⟨bt269.2.2.2.1, bt269.2.2.2.2⟩ : S45)⟩ : S52), (⟨bt275.1, bt275.2.1, bt275.2.2.1, (⟨bt275.2.2.2.1, bt275.2.2.2.2⟩ : S45)⟩ : S52), (⟨bt280.1, bt280.2.1, bt280.2.2.1, (⟨bt280.2.2.2.1, bt280.2.2.2.2⟩ : S45)⟩ : S52)] : List (S52)))] : List (List (S52))))))) else (none)))) else (none))) else (none)) else (if x205000 = 2 then (if 0 < (x2.length : Int) then ((steepleref25_v.f (rd x2 0)).bind fun bt292 => (if 1 < (x2.length : Int) then ((steepleref25_v.f (rd x2 1)).bind fun bt298 => (if 2 < (x2.length : Int) then ((steepleref25_v.f (rd x2 2)).bind fun bt304 => ((steepleref25_times.f 1 2).bind fun bt309 => ((steepleref25_plus.f 0 3).bind fun bt314 => (some (([(([(⟨bt292.1, bt292.2.1, bt292.2.2.1, (⟨bt292.2.2.2.1, bt292.2.2.2.2⟩ : S45)⟩ : S52), (⟨bt298.1, bt298.2.1, bt298.2.2.1, (⟨bt298.2.2.2.1, bt298.2.2.2.2⟩ : S45)⟩ : S52), (⟨bt304.1, bt304.2.1, bt304.2.2.1, (⟨bt304.2.2.2.1, bt304.2.2.2.2⟩ : S45)⟩ : S52), (⟨bt309.1, bt309.2.1, bt309.2.2.1, (⟨bt309.2.2.2.1, bt309.2.2.2.2⟩ : S45)⟩ : S52), (⟨bt314.1, bt314.2.1, bt314.2.2.1, (⟨bt314.2.2.2.1, bt314.2.2.2.2⟩ : S45)⟩ : S52)] : List (S52)))] : List (List (S52)))))))) else (none))) else (none))) else (none)) else (if x204000 = 0 then (if 0 < (x2.length : Int) then ((steepleref25_v.f (rd x2 0)).bind fun bt326 => (if 1 < (x2.length : Int) then ((steepleref25_v.f (rd x2 1)).bind fun bt332 => ((steepleref25_plus.f 0 1).bind fun bt337 => (if 2 < (x2.length : Int) then ((steepleref25_v.f (rd x2 2)).bind fun bt343 => ((steepleref25_plus.f 2 3).bind fun bt348 => (if 3 < (x2.length : Int) then ((steepleref25_v.f (rd x2 3)).bind fun bt357 => ((steepleref25_v.f (rd x2 1)).bind fun bt363 => ((steepleref25_v.f (rd x2 2)).bind fun bt369 => ((steepleref25_times.f 1 2).bind fun bt374 => ((steepleref25_plus.f 0 3).bind fun bt379 => (some (([(([(⟨bt326.1, bt326.2.1, bt326.2.2.1, (⟨bt326.2.2.2.1, bt326.2.2.2.2⟩ : S45)⟩ : S52), (⟨bt332.1, bt332.2.1, bt332.2.2.1, (⟨bt332.2.2.2.1, bt332.2.2.2.2⟩ : S45)⟩ : S52), (⟨bt337.1, bt337.2.1, bt337.2.2.1, (⟨bt337.2.2.2.1, bt337.2.2.2.2⟩ : S45)⟩ : S52), (⟨bt343.1, bt343.2.1, bt343.2.2.1, (⟨bt343.2.2.2.1, bt343.2.2.2.2⟩ : S45)⟩ : S52), (⟨bt348.1, bt348.2.1, bt348.2.2.1, (⟨bt348.2.2.2.1, bt348.2.2.2.2⟩ : S45)⟩ : S52)] : List (S52))), (([(⟨bt357.1, bt357.2.1, bt357.2.2.1, (⟨bt357.2.2.2.1, bt357.2.2.2.2⟩ : S45)⟩ : S52), (⟨bt363.1, bt363.2.1, bt363.2.2.1, (⟨bt363.2.2.2.1, bt363.2.2.2.2⟩ : S45)⟩ : S52), (⟨bt369.1, bt369.2.1, bt369.2.2.1, (⟨bt369.2.2.2.1, bt369.2.2.2.2⟩ : S45)⟩ : S52), (⟨bt374.1, bt374.2.1, bt374.2.2.1, (⟨bt374.2.2.2.1, bt374.2.2.2.2⟩ : S45)⟩ : S52), (⟨bt379.1, bt379.2.1, bt379.2.2.1, (⟨bt379.2.2.2.1, bt379.2.2.2.2⟩ : S45)⟩ : S52)] : List (S52)))] : List (List (S52)))))))))) else (none)))) else (none)))) else (none))) else (none)) else (if 0 < (x2.length : Int) then ((steepleref25_v.f (rd x2 0)).bind fun bt391 => (if 1 < (x2.length : Int) then ((steepleref25_v.f (rd x2 1)).bind fun bt397 => ((steepleref25_plus.f 0 1).bind fun bt402 => (if 2 < (x2.length : Int) then ((steepleref25_v.f (rd x2 2)).bind fun bt408 => ((steepleref25_plus.f 2 3).bind fun bt413 => (if 4 < (x2.length : Int) then ((steepleref25_v.f (rd x2 4)).bind fun bt419 => ((steepleref25_plus.f 4 5).bind fun bt424 => (if 3 < (x2.length : Int) then ((steepleref25_v.f (rd x2 3)).bind fun bt433 => ((steepleref25_v.f (rd x2 1)).bind fun bt439 => ((steepleref25_v.f (rd x2 2)).bind fun bt445 => ((steepleref25_times.f 1 2).bind fun bt450 => ((steepleref25_plus.f 0 3).bind fun bt455 => ((steepleref25_v.f (rd x2 4)).bind fun bt461 => ((steepleref25_v.f (rd x2 1)).bind fun bt467 => ((steepleref25_v.f (rd x2 2)).bind fun bt473 => ((steepleref25_plus.f 6 7).bind fun bt478 => ((steepleref25_times.f 5 8).bind fun bt483 => ((steepleref25_plus.f 4 9).bind fun bt488 => (some (([(([(⟨bt391.1, bt391.2.1, bt391.2.2.1, (⟨bt391.2.2.2.1, bt391.2.2.2.2⟩ : S45)⟩ : S52), (⟨bt397.1, bt397.2.1, bt397.2.2.1, (⟨bt397.2.2.2.1, bt397.2.2.2.2⟩ : S45)⟩ : S52), (⟨bt402.1, bt402.2.1, bt402.2.2.1, (⟨bt402.2.2.2.1, bt402.2.2.2.2⟩ : S45)⟩ : S52), (⟨bt408.1, bt408.2.1, bt408.2.2.1, (⟨bt408.2.2.2.1, bt408.2.2.2.2⟩ : S45)⟩ : S52), (⟨bt413.1, bt413.2.1, bt413.2.2.1, (⟨bt413.2.2.2.1, bt413.2.2.2.2⟩ : S45)⟩ : S52), (⟨bt419.1, bt419.2.1, bt419.2.2.1, (⟨bt419.2.2.2.1, bt419.2.2.2.2⟩ : S45)⟩ : S52), (⟨bt424.1, bt424.2.1, bt424.2.2.1, (⟨bt424.2.2.2.1, bt424.2.2.2.2⟩ : S45)⟩ : S52)] : List (S52))), (([(⟨bt433.1, bt433.2.1, bt433.2.2.1, (⟨bt433.2.2.2.1, bt433.2.2.2.2⟩ : S45)⟩ : S52), (⟨bt439.1, bt439.2.1, bt439.2.2.1, (⟨bt439.2.2.2.1, bt439.2.2.2.2⟩ : S45)⟩ : S52), (⟨bt445.1, bt445.2.1, bt445.2.2.1, (⟨bt445.2.2.2.1, bt445.2.2.2.2⟩ : S45)⟩ : S52), (⟨bt450.1, bt450.2.1, bt450.2.2.1, (⟨bt450.2.2.2.1, bt450.2.2.2.2⟩ : S45)⟩ : S52), (⟨bt455.1, bt455.2.1, bt455.2.2.1, (⟨bt455.2.2.2.1, bt455.2.2.2.2⟩ : S45)⟩ : S52), (⟨bt461.1, bt461.2.1, bt461.2.2.1, (⟨bt461.2.2.2.1, bt461.2.2.2.2⟩ : S45)⟩ : S52), (⟨bt467.1, bt467.2.1, bt467.2.2.1, (⟨bt467.2.2.2.1, bt467.2.2.2.2⟩ : S45)⟩ : S52), (⟨bt473.1, bt473.2.1, bt473.2.2.1, (⟨bt473.2.2.2.1, bt473.2.2.2.2⟩ : S45)⟩ : S52), (⟨bt478.1, bt478.2.1, bt478.2.2.1, (⟨bt478.2.2.2.1, bt478.2.2.2.2⟩ : S45)⟩ : S52), (⟨bt483.1, bt483.2.1, bt483.2.2.1, (⟨bt483.2.2.2.1, bt483.2.2.2.2⟩ : S45)⟩ : S52), (⟨bt488.1, bt488.2.1, bt488.2.2.1, (⟨bt488.2.2.2.1, bt488.2.2.2.2⟩ : S45)⟩ : S52)] : List (S52)))] : List (List (S52)))))))))))))))) else (none)))) else (none)))) else (none)))) else (none))) else (none))))))
def steepleref25_System_Laid.f (k : Nat) (a0_0 : Int) (a0_1 : Int) (a0_2 : Int) (a0_3 : Int) (a0_4 : Int) (l0_5 : List (S106)) (a1_0 : Int) (a1_1 : Int) (a1_2 : Int) (a1_3 : Int) (a1_4 : Int) (l2 : List Int) : Option ((List (List (S52)))) := if a1_0 = 8 then (steepleref25_System_Laid.j0 k l2 true a0_0 a0_1 a0_2 a0_3 a0_4 l0_5 a1_0 a1_1 a1_2 a1_3 a1_4) else ((steepleref25_shifts.f a1_0).bind fun t205 => (steepleref25_System_Laid.j0 k l2 t205 a0_0 a0_1 a0_2 a0_3 a0_4 l0_5 a1_0 a1_1 a1_2 a1_3 a1_4))
theorem steepleref25_System_Laid.mono_l : ∀ k, (∀ y0 y1 y2 y3 y4 y5 y6 y7 y8 y9 y10 y11 y12, LeO (steepleref25_System_Laid.j0 k y0 y1 y2 y3 y4 y5 y6 y7 y8 y9 y10 y11 y12) (steepleref25_System_Laid.j0 (k + 1) y0 y1 y2 y3 y4 y5 y6 y7 y8 y9 y10 y11 y12))
 | 0 => fun _ _ _ _ _ _ _ _ _ _ _ _ _ r h => by simp [steepleref25_System_Laid.j0] at h
 | k + 1 => by
  have ih0 := steepleref25_System_Laid.mono_l k
  ·intro y0 y1 y2 y3 y4 y5 y6 y7 y8 y9 y10 y11 y12
   unfold steepleref25_System_Laid.j0
   repeat' first
   | (with_reducible exact ih0 _ _ _ _ _ _ _ _ _ _ _ _ _)
   | (with_reducible exact LeO.refl _)
   | (with_reducible exact LeO.none _)
   | (with_reducible refine LeO.ite ?_ ?_)
   | (with_reducible refine LeO.bind ?_ (fun _ => ?_))
   | exact ih0 _ _ _ _ _ _ _ _ _ _ _ _ _
   | exact LeO.none _
   | refine LeO.ite ?_ ?_
   | refine LeO.bind ?_ (fun _ => ?_)
theorem steepleref25_System_Laid.mono : ∀ a0 a1 a2 a3 a4 a5 a6 a7 a8 a9 a10 a11 k, LeO (steepleref25_System_Laid.f k a0 a1 a2 a3 a4 a5 a6 a7 a8 a9 a10 a11) (steepleref25_System_Laid.f (k + 1) a0 a1 a2 a3 a4 a5 a6 a7 a8 a9 a10 a11) := by
 intro a0 a1 a2 a3 a4 a5 a6 a7 a8 a9 a10 a11 k
 have ih0 := steepleref25_System_Laid.mono_l k
 unfold steepleref25_System_Laid.f
 repeat' first
   | (with_reducible exact ih0 _ _ _ _ _ _ _ _ _ _ _ _ _)
   | (with_reducible exact LeO.refl _)
   | (with_reducible exact LeO.none _)
   | (with_reducible refine LeO.ite ?_ ?_)
   | (with_reducible refine LeO.bind ?_ (fun _ => ?_))
   | exact ih0 _ _ _ _ _ _ _ _ _ _ _ _ _
   | exact LeO.none _
   | refine LeO.ite ?_ ?_
   | refine LeO.bind ?_ (fun _ => ?_)
def steepleref25_System_Laid.T2 : Bool × List (List Nat × List Nat) := (true, [([], []), ([0], [0]), ([1], [1]), ([2], [2]), ([], []), ([4], [4]), ([5], [5]), ([6, 3], [6]), ([7], []), ([3, 7, 8], [3, 7, 8]), ([9], [9]), ([10, 8, 0, 1, 2, 3, 4, 5, 6, 7, 8, 9, 10], [10])])
def steepleref25_System_Laid.B2 : List Nat := [0, 1, 3, 7, 0, 16, 48, 127, 255, 511, 1023, 2047]
theorem steepleref25_System_Laid.tab2 : rtab .any (opsOf Try.f63 2) = steepleref25_System_Laid.T2 := by kernel_rfl
theorem steepleref25_System_Laid.bits2 : waitsOk steepleref25_System_Laid.T2.2 steepleref25_System_Laid.B2 = true := by kernel_rfl
def steepleref25_System_Laid.T4 : Bool × List (List Nat × List Nat) := (true, [([], []), ([0], [0]), ([1], [1]), ([2], [2]), ([], []), ([4], [4]), ([5], [5]), ([6, 3], [6]), ([7], []), ([], []), ([9], [9]), ([8], []), ([3, 7, 8, 10, 11], [3, 7, 8, 10, 11]), ([12], [12]), ([13, 11, 0, 1, 2, 3, 4, 5, 6, 7, 8, 9, 10, 11, 12, 13], [13])])
def steepleref25_System_Laid.B4 : List Nat := [0, 1, 3, 7, 0, 16, 48, 127, 255, 0, 512, 511, 4095, 8191, 16383]
theorem steepleref25_System_Laid.tab4 : rtab .any (opsOf Try.f63 4) = steepleref25_System_Laid.T4 := by kernel_rfl
theorem steepleref25_System_Laid.bits4 : waitsOk steepleref25_System_Laid.T4.2 steepleref25_System_Laid.B4 = true := by kernel_rfl
def steepleref25_System_Laid.T6 : Bool × List (List Nat × List Nat) := (true, [([], []), ([0], [0]), ([1], [1]), ([2], [2]), ([], []), ([4], [4]), ([5], [5]), ([6, 3], [6]), ([7], []), ([], []), ([9], [9]), ([10], [10]), ([11, 8], [11]), ([12], []), ([3, 7, 8, 12, 13], [3, 7, 8, 12, 13]), ([14], [14]), ([15, 13, 0, 1, 2, 3, 4, 5, 6, 7, 8, 9, 10, 11, 12, 13, 14, 15], [15])])
def steepleref25_System_Laid.B6 : List Nat := [0, 1, 3, 7, 0, 16, 48, 127, 255, 0, 512, 1536, 4095, 8191, 16383, 32767, 65535]
theorem steepleref25_System_Laid.tab6 : rtab .any (opsOf Try.f63 6) = steepleref25_System_Laid.T6 := by kernel_rfl
theorem steepleref25_System_Laid.bits6 : waitsOk steepleref25_System_Laid.T6.2 steepleref25_System_Laid.B6 = true := by kernel_rfl
def steepleref25_System_Laid.T8 : Bool × List (List Nat × List Nat) := (true, [([], []), ([0], [0]), ([1], [1]), ([2], [2]), ([], []), ([4], [4]), ([5], [5]), ([6, 3], [6]), ([], []), ([8], [8]), ([9], [9]), ([10, 7], [10]), ([11], []), ([12], []), ([3, 7, 11, 12, 13], [3, 7, 11, 12, 13]), ([14], [14]), ([15, 13, 0, 1, 2, 3, 4, 5, 6, 7, 8, 9, 10, 11, 12, 13, 14, 15], [15])])
def steepleref25_System_Laid.B8 : List Nat := [0, 1, 3, 7, 0, 16, 48, 127, 0, 256, 768, 2047, 4095, 8191, 16383, 32767, 65535]
theorem steepleref25_System_Laid.tab8 : rtab .any (opsOf Try.f63 8) = steepleref25_System_Laid.T8 := by kernel_rfl
theorem steepleref25_System_Laid.bits8 : waitsOk steepleref25_System_Laid.T8.2 steepleref25_System_Laid.B8 = true := by kernel_rfl
def steepleref25_System_Laid.T10 : Bool × List (List Nat × List Nat) := (true, [([], []), ([0], [0]), ([1], [1]), ([2], [2]), ([], []), ([4], [4]), ([5], [5]), ([6, 3], [6]), ([7], []), ([], []), ([9], [9]), ([10], [10]), ([11, 8], [11]), ([12], []), ([3, 7, 8, 12, 13], [3, 7, 8, 12, 13]), ([], []), ([15], [15]), ([16], [16]), ([17, 13], [17]), ([], []), ([19], [19]), ([20], [20]), ([21, 18], [21]), ([], []), ([23], [23]), ([24], [24]), ([25, 22], [25]), ([26], []), ([27], []), ([18, 22, 26, 27, 28], [18, 22, 26, 27, 28]), ([14, 29], [14, 29]), ([30, 28, 0, 1, 2, 3, 4, 5, 6, 7, 8, 9, 10, 11, 12, 13, 14, 15, 16, 17, 18, 19, 20, 21, 22, 23, 24, 25, 26, 27, 28, 29, 30], [30])])
def steepleref25_System_Laid.B10 : List Nat := [0, 1, 3, 7, 0, 16, 48, 127, 255, 0, 512, 1536, 4095, 8191, 16383, 0, 32768, 98304, 245759, 0, 524288, 1572864, 4177919, 0, 8388608, 25165824, 67092479, 134201343, 268419071, 536854527, 1073741823, 2147483647]
theorem steepleref25_System_Laid.tab10 : rtab .any (opsOf Try.f63 10) = steepleref25_System_Laid.T10 := by kernel_rfl
theorem steepleref25_System_Laid.bits10 : waitsOk steepleref25_System_Laid.T10.2 steepleref25_System_Laid.B10 = true := by kernel_rfl
def steepleref25_System_Laid.T11 : Bool × List (List Nat × List Nat) := (true, [([], []), ([0], [0]), ([1], [1]), ([2], [2]), ([], []), ([4], [4]), ([5], [5]), ([6, 3], [6]), ([7], []), ([], []), ([9], [9]), ([10], [10]), ([11, 8], [11]), ([12], []), ([], []), ([14], [14]), ([15], [15]), ([16, 13], [16]), ([17], []), ([3, 7, 8, 12, 13, 17, 18], [3, 7, 8, 12, 13, 17, 18]), ([19, 18, 0, 1, 2, 3, 4, 5, 6, 7, 8, 9, 10, 11, 12, 13, 14, 15, 16, 17, 18, 19], [19])])
def steepleref25_System_Laid.B11 : List Nat := [0, 1, 3, 7, 0, 16, 48, 127, 255, 0, 512, 1536, 4095, 8191, 0, 16384, 49152, 131071, 262143, 524287, 1048575]
theorem steepleref25_System_Laid.tab11 : rtab .any (opsOf Try.f63 11) = steepleref25_System_Laid.T11 := by kernel_rfl
theorem steepleref25_System_Laid.bits11 : waitsOk steepleref25_System_Laid.T11.2 steepleref25_System_Laid.B11 = true := by kernel_rfl
def steepleref25_System_Laid.T12 : Bool × List (List Nat × List Nat) := (true, [([], []), ([0], [0]), ([1], [1]), ([2], [2]), ([], []), ([4], [4]), ([5], [5]), ([6, 3], [6]), ([], []), ([8], [8]), ([9], [9]), ([10, 7], [10]), ([11], []), ([12], []), ([], []), ([14], [14]), ([15], [15]), ([16, 13], [16]), ([], []), ([18], [18]), ([19], [19]), ([20, 17], [20]), ([], []), ([22], [22]), ([23], [23]), ([24, 21], [24]), ([25], []), ([26], []), ([27], []), ([3, 7, 11, 12, 13, 17, 21, 25, 26, 27, 28], [3, 7, 11, 12, 13, 17, 21, 25, 26, 27, 28]), ([29, 28, 0, 1, 2, 3, 4, 5, 6, 7, 8, 9, 10, 11, 12, 13, 14, 15, 16, 17, 18, 19, 20, 21, 22, 23, 24, 25, 26, 27, 28, 29], [29])])
def steepleref25_System_Laid.B12 : List Nat := [0, 1, 3, 7, 0, 16, 48, 127, 0, 256, 768, 2047, 4095, 8191, 0, 16384, 49152, 131071, 0, 262144, 786432, 2097151, 0, 4194304, 12582912, 33554431, 67108863, 134217727, 268435455, 536870911, 1073741823]
theorem steepleref25_System_Laid.tab12 : rtab .any (opsOf Try.f63 12) = steepleref25_System_Laid.T12 := by kernel_rfl
theorem steepleref25_System_Laid.bits12 : waitsOk steepleref25_System_Laid.T12.2 steepleref25_System_Laid.B12 = true := by kernel_rfl
set_option maxHeartbeats 8000000 in
set_option maxRecDepth 100000 in
theorem steepleref25_System_Laid.calls (k : Nat) (a0_0 : Int) (a0_1 : Int) (a0_2 : Int) (a0_3 : Int) (a0_4 : Int) (A0_5 : Option Addr) (c0_5 : Nat) (l0_5 : List (S106)) (a1_0 : Int) (a1_1 : Int) (a1_2 : Int) (a1_3 : Int) (a1_4 : Int) (A2 : Option Addr) (c2 : Nat) (l2 : List Int) (r : List (List (S52))) (w : World) (hr0_5 : Kd.C k106 w A0_5 l0_5.length l0_5) (hc0_5 : l0_5.length ≤ c0_5) (hr2 : Kd.C (Kd.int .i64) w A2 l2.length l2) (hc2 : l2.length ≤ c2) (h : steepleref25_System_Laid.f k a0_0 a0_1 a0_2 a0_3 a0_4 l0_5 a1_0 a1_1 a1_2 a1_3 a1_4 l2 = some r) :
  Calls Try.prog 63 #[.agg #[.int .i64 a0_0, .int .i64 a0_1, .int .i64 a0_2, .int .i64 a0_3, .int .i64 a0_4, .slice A0_5 l0_5.length c0_5], .agg #[.int .i64 a1_0, .int .i64 a1_1, .int .i64 a1_2, .int .i64 a1_3, .int .i64 a1_4], .slice A2 l2.length c2] w fun e w' => ∃ v0_ : Value, e = .returned (v0_) ∧ Kd.N (Kd.slice 52 k52) 48 w' w.heap.size (fun k_ => (w.heap.size ≤ k_)) v0_ r ∧ Below w.heap.size w w' := by
 have hu28 := Try.underlying28; have hu106 := Try.underlying106; have hu45 := Try.underlying45; have hu52 := Try.underlying52; have HR0_5 := Aside0.mk hr0_5; have HC0_5 := Aside0.mk hc0_5; clear hr0_5 hc0_5; have HR2 := Aside0.mk hr2; have HC2 := Aside0.mk hc2; clear hr2 hc2; have HB := Aside0.mk (Below.refl w.heap.size w)
 have H : (if a1_0 = 8 then (steepleref25_System_Laid.j0 k l2 true a0_0 a0_1 a0_2 a0_3 a0_4 l0_5 a1_0 a1_1 a1_2 a1_3 a1_4) else ((steepleref25_shifts.f a1_0).bind fun t205 => (steepleref25_System_Laid.j0 k l2 t205 a0_0 a0_1 a0_2 a0_3 a0_4 l0_5 a1_0 a1_1 a1_2 a1_3 a1_4))) = some r := h
 clear h; have HC4 := Aside0.mk H; clear H
 go_enter Try.func63, Try.ntmps63
 go_upto_region 1 with (first | ((with_reducible refine gate_dst (N := 3) rfl ?_); refine box_event ?hg (N := 3) ?hd (cs := #[.int .i64 a0_0, .int .i64 a0_1, .int .i64 a0_2, .int .i64 a0_3, .int .i64 a0_4, .slice A0_5 l0_5.length c0_5]) (t := 28) ?hr ?_; (case hd => rfl); (case hg => rfl); (case hr => first | (go_simp; done) | (go_simp; rfl)); intro gb203 hg w5 hbox hb; have n0_ := Aside0.mk (below_step (blA HB.out) hb); have n1_ := Aside0.mk (hbox); have n2_ := Aside0.mk ((by rw [hg]; exact (below_size (blA HB.out)) : w.heap.size ≤ gb203)); have n3_ := Aside0.mk ((by rw [hg]; exact (below_size (blA HB.out)) : w.heap.size ≤ gb203)); clear HB; have HB := n0_; have BK203 := n1_; have GW203 := n2_; have GE203 := n3_; clear n0_ n1_ n2_ n3_; clear hb hbox hg) | ((with_reducible refine gate_dst (N := 4) rfl ?_); refine box_event ?hg (N := 4) ?hd (cs := #[.int .i64 a1_0, .int .i64 a1_1, .int .i64 a1_2, .int .i64 a1_3, .int .i64 a1_4]) (t := 106) ?hr ?_; (case hd => rfl); (case hg => rfl); (case hr => first | (go_simp; done) | (go_simp; rfl)); intro gb204 hg w6 hbox hb; have n0_ := Aside0.mk (blk_below (bkA BK203.out) hb); have n1_ := Aside0.mk (below_step (blA HB.out) hb); have n2_ := Aside0.mk (hbox); have n3_ := Aside0.mk ((by rw [hg]; exact (below_size (blA HB.out)) : w.heap.size ≤ gb204)); have n4_ := Aside0.mk ((by rw [hg]; exact (below_size (blA HB.out)) : w.heap.size ≤ gb204)); have n5_ := Aside0.mk ((by rw [hg]; exact Nat.ne_of_lt (blk_lt (bkA BK203.out)) : gb203 ≠ gb204)); have n6_ := Aside0.mk ((by rw [hg]; exact Nat.ne_of_gt (blk_lt (bkA BK203.out)) : gb204 ≠ gb203)); clear BK203; clear HB; have BK203 := n0_; have HB := n1_; have BK204 := n2_; have GW204 := n3_; have GE204 := n4_; have NB203_204 := n5_; have NB204_203 := n6_; clear n0_ n1_ n2_ n3_ n4_ n5_ n6_; clear hb hbox hg))
 (try simp only [Act.put, List.setIfInBounds_toArray, List.set_cons_zero, List.set_cons_succ])
 go_cut [16] (fun v16 wc => ∃ (kq : Nat) (x16_3 : Bool), v16 = .bool x16_3 ∧ Aside0 (steepleref25_System_Laid.j0 kq l2 x16_3 a0_0 a0_1 a0_2 a0_3 a0_4 l0_5 a1_0 a1_1 a1_2 a1_3 a1_4 = some r) ∧ Aside0 (kq ≤ k) ∧ Aside0 (wc.heap[gb203]? = some (.cells #[.int .i64 a0_0, .int .i64 a0_1, .int .i64 a0_2, .int .i64 a0_3, .int .i64 a0_4, (.slice A0_5 l0_5.length c0_5)] 28 (0, 0))) ∧ Aside0 (wc.heap[gb204]? = some (.cells #[.int .i64 a1_0, .int .i64 a1_1, .int .i64 a1_2, .int .i64 a1_3, .int .i64 a1_4] 106 (0, 0))) ∧ Aside0 (Below w.heap.size w wc))
 case first =>
  have H := HC4.out; clear HC4
  by_cases c7 : a1_0 = 8
  ·rw [if_pos c7] at H
   have c7b0 : (a1_0 == 8) = true := beq_iff_eq.mpr c7; have c7b1 : (a1_0 != 8) = false := bne_eq_false_iff_eq.mpr c7; clear c7
   (first | rw [c7b0] | (simp only [i64_w, i32_w]; rw [c7b0]) | skip)
   have H' := Aside0.mk H; clear H; have hnb8 := NB204_203.out; have hnc8 := NB203_204.out
   have hcz9 := fun i => blk_cell BK204.out i
   have hfz9 := fun i => blk_frozen BK204.out i
   go_wp2
   go_meet
   case rel => exact ⟨_, (true), eqA, H', ⟨omA⟩, ⟨bkA BK203.out⟩, ⟨bkA BK204.out⟩, ⟨blA HB.out⟩⟩
  ·rw [if_neg c7] at H
   have c7b0 : (a1_0 == 8) = false := beq_eq_false_iff_ne.mpr c7; have c7b1 : (a1_0 != 8) = true := bne_iff_ne.mpr c7
   (first | rw [c7b0] | (simp only [i64_w, i32_w]; rw [c7b0]) | skip)
   replace H := Option.bind_eq_some_iff.mp H; obtain ⟨t205, A100, H⟩ := H; replace H : (steepleref25_System_Laid.j0 k l2 t205 a0_0 a0_1 a0_2 a0_3 a0_4 l0_5 a1_0 a1_1 a1_2 a1_3 a1_4) = some r := H; have A10 := Aside0.mk A100; clear A100; have H' := Aside0.mk H; clear H; have hnb11 := NB204_203.out; have hnc11 := NB203_204.out
   have hcz12 := fun i => blk_cell BK204.out i
   have hfz12 := fun i => blk_frozen BK204.out i
   go_wp2_with (first | (go_at_call 90; (with_reducible refine (steepleref25_shifts.calls a1_0 t205 _ A10.out).mono ?_); rintro e w' ⟨rfl, ⟨nd, rfl⟩⟩))
   go_meet
   case rel => exact ⟨_, (t205), eqA, H', ⟨omA⟩, ⟨bkA BK203.out⟩, ⟨bkA BK204.out⟩, ⟨blA HB.out⟩⟩
 case rest =>
  clear HC4; (try clear c1); (try clear c2); (try clear p2); (try clear c6); (try clear c7); (try clear c7b0); (try clear c7b1); (try clear c8); (try clear c11); (try clear hcz12); (try clear hcz9); (try clear hfz12); (try clear hfz9); obtain ⟨kq, x16_3, rfl, HA, HJ3, BK203, BK204, HB⟩ := hcut
  cases kq with
  | zero => exact absurd HA.out (by simp [steepleref25_System_Laid.j0])
  | succ kj3 =>
   have H := HA.out; clear HA
   simp only [steepleref25_System_Laid.j0] at H
   by_cases c13 : x16_3 = true
   ·subst c13
    have H1 : (if 0 < (l2.length : Int) then ((steepleref25_v.f (rd l2 0)).bind fun bt207 => (if 1 < (l2.length : Int) then ((steepleref25_v.f (rd l2 1)).bind fun bt213 => ((steepleref25_plus.f 0 1).bind fun bt218 => (some (([(([(⟨bt207.1, bt207.2.1, bt207.2.2.1, (⟨bt207.2.2.2.1, bt207.2.2.2.2⟩ : S45)⟩ : S52), (⟨bt213.1, bt213.2.1, bt213.2.2.1, (⟨bt213.2.2.2.1, bt213.2.2.2.2⟩ : S45)⟩ : S52), (⟨bt218.1, bt218.2.1, bt218.2.2.1, (⟨bt218.2.2.2.1, bt218.2.2.2.2⟩ : S45)⟩ : S52)] : List (S52)))] : List (List (S52))))))) else (none))) else (none)) = some r := by rw [if_pos rfl] at H; exact H
    clear H; have H := H1; clear H1
    by_cases c14 : 0 < (l2.length : Int)
    ·rw [if_pos c14] at H
     have c14b0 : decide (0 < (l2.length : Int)) = true := decide_eq_true c14
     have c14b1 : decide (0 < l2.length) = true := decide_eq_true (by omega)
     clear c14; replace H := Option.bind_eq_some_iff.mp H
     obtain ⟨⟨t207, t208, t209, t210, t211⟩, A150, H⟩ := H
     (try dsimp only at H)
     have A15 := Aside0.mk A150; clear A150
     by_cases c16 : 1 < (l2.length : Int)
     ·rw [if_pos c16] at H
      have c16b0 : decide (1 < (l2.length : Int)) = true := decide_eq_true c16
      have c16b1 : decide (1 < l2.length) = true := decide_eq_true (by omega)
      clear c16; replace H := Option.bind_eq_some_iff.mp H
      obtain ⟨⟨t213, t214, t215, t216, t217⟩, A170, H⟩ := H
      (try dsimp only at H)
      have A17 := Aside0.mk A170; clear A170; replace H := Option.bind_eq_some_iff.mp H
      obtain ⟨⟨t218, t219, t220, t221, t222⟩, A180, H⟩ := H
      (try dsimp only at H); have A18 := Aside0.mk A180; clear A180
      obtain ⟨y223, hy223⟩ : ∃ y_ : List (S52), y_ = (([(⟨t207, t208, t209, (⟨t210, t211⟩ : S45)⟩ : S52), (⟨t213, t214, t215, (⟨t216, t217⟩ : S45)⟩ : S52), (⟨t218, t219, t220, (⟨t221, t222⟩ : S45)⟩ : S52)] : List (S52))) := ⟨_, rfl⟩
      replace H : (some (([y223] : List (List (S52))))) = some r := by first | (rw [hy223]; with_reducible exact H) | (have H2_ := (Option.bind_some _ _).symm.trans H; rw [hy223]; with_reducible exact H2_) | (have H2_ := (Option.bind_some _ _).symm.trans H; with_reducible exact H2_) | with_reducible exact H | (rw [hy223]; exact H) | exact H
      have Ny223 := Aside0.mk hy223; clear hy223
      obtain ⟨y226, hy226⟩ : ∃ y_ : List (List (S52)), y_ = (([y223] : List (List (S52)))) := ⟨_, rfl⟩
      replace H : (some y226) = some r := by first | (rw [hy226]; with_reducible exact H) | (have H2_ := (Option.bind_some _ _).symm.trans H; rw [hy226]; with_reducible exact H2_) | (have H2_ := (Option.bind_some _ _).symm.trans H; with_reducible exact H2_) | with_reducible exact H | (rw [hy226]; exact H) | exact H
      have Ny226 := Aside0.mk hy226; clear hy226; obtain rfl := Option.some.inj H
      try go_wp2
      have n0_ := Aside0.mk (blk_drew BK203.out); have n1_ := Aside0.mk (blk_drew BK204.out); have n2_ := Aside0.mk (below_drew1 HB.out); clear BK203; clear BK204; clear HB; have BK203 := n0_; have BK204 := n1_; have HB := n2_; clear n0_ n1_ n2_
      have p206 : 0 ≤ (0 : Int) := (by omega)
      have q206 : 0 < (l2.length : Int) := of_decide_eq_true (by first | (with_reducible assumption) | assumption)
      obtain ⟨ad206, e206, hx206_0⟩ := Kd.at_int HR2.out 0 p206 q206; have hw206_0 := hx206_0
      (try rw [show ((0 : Int)).toNat = 0 from rfl] at hw206_0)
      (try rw [show 0 * 1 = 0 from rfl] at hw206_0)
      (try rw [Addr.add_zero'] at hw206_0)
      cases e206
      have qi206 : (0 < l2.length) = True := eq_true (by omega)
      (try rw [show ((0 : Int)).toNat = 0 from rfl] at hx206_0)
      (try rw [Addr.add_zero'] at hx206_0)
      replace hx206_0 := (HB.out.cell (World.block_lt_of_cell? w _ hx206_0)).trans hx206_0; replace p206 := eq_true p206; replace q206 := eq_true q206
      have p212 : 0 ≤ (1 : Int) := (by omega)
      have q212 : 1 < (l2.length : Int) := of_decide_eq_true (by first | (with_reducible assumption) | assumption)
      obtain ⟨ad212, e212, hx212_0⟩ := Kd.at_int HR2.out 1 p212 q212; have hw212_0 := hx212_0
      (try rw [show ((1 : Int)).toNat = 1 from rfl] at hw212_0)
      (try rw [show 1 * 1 = 1 from rfl] at hw212_0)
      (try simp only [Nat.reduceMul, Nat.reduceEqDiff, Go.Addr.add, ↓reduceIte] at hw212_0)
      obtain rfl : ad206 = ad212 := (by injection e212)
      (try simp only [show (1 : Int).toNat = 1 from rfl, Nat.reduceMul, Nat.reduceEqDiff, Go.Addr.add, ↓reduceIte] at hx212_0)
      have qi212 : (1 < l2.length) = True := eq_true (by omega)
      (try rw [show ((1 : Int)).toNat = 1 from rfl] at hx212_0)
      replace hx212_0 := (HB.out.cell (World.block_lt_of_cell? w _ hx212_0)).trans hx212_0; replace p212 := eq_true p212; replace q212 := eq_true q212
      refine start_ (n := 12) (S := fun w' => w'.cell? ad206 = some (.int .i64 (rd l2 0)) ∧ w'.cell? ⟨ad206.block, ad206.off + 1, none⟩ = some (.int .i64 (rd l2 1))) (ds := []) #[false, false, false, false, false, false, false, false, false, false, false, false] (by kernel_rfl) rfl rfl ⟨(clA HB.out hw206_0), (clA HB.out hw212_0)⟩ (fun hHeld => ?_); refine with_tabW steepleref25_System_Laid.tab2 steepleref25_System_Laid.bits2 (fun HT_ HW_ => ?_)
      generalize wc.drew = w19 at BK203 BK204 HB hx206_0 hx212_0 hHeld ⊢
      refine pureA 0 (some 17) HT_.out ?_
      refine pureA 1 (some 18) HT_.out ?_
      refine pureA 4 (some 21) HT_.out ?_
      refine pureA 5 (some 22) HT_.out ?_
      refine takeA 2 (some 19) rfl HT_.out HW_.out hHeld (Or.inl ⟨by rfl, by rintro w' ⟨s0, s1⟩; go_simp; with_reducible rfl⟩) ?_
      refine takeA 6 (some 23) rfl HT_.out HW_.out hHeld (Or.inl ⟨by rfl, by rintro w' ⟨s0, s1⟩; go_simp; with_reducible rfl⟩) ?_
      refine one_ (i := 3) (N := some 20) #[true, true, true, true, true, true, true, false, false, false, false, false] rfl rfl (one_of HT_.out (by kernel_rfl)) (by decide) (fun K hK => ?_)
      refine goes_ Try.func91 (by kernel_rfl) rfl #[.int .i64 (rd l2 0)] (by rfl) rfl rfl gsA ?_
      with_reducible refine (steepleref25_v.calls (rd l2 0) t207 t208 t209 t210 t211 _ A15.out).mono ?_
      rintro e w20 ⟨rfl, hb⟩
      refine ⟨_, rfl, ?_⟩
      have n0_ := Aside0.mk (blk_below (bkA BK203.out) hb); have n1_ := Aside0.mk (blk_below (bkA BK204.out) hb); have n2_ := Aside0.mk (below_step (blA HB.out) hb); clear BK203; clear BK204; clear HB; have BK203 := n0_; have BK204 := n1_; have HB := n2_; clear n0_ n1_ n2_
      (try clear hb)
      refine hK.out _ _ ⟨(clA HB.out hw206_0), (clA HB.out hw212_0)⟩ (fun hHeld => ?_)
      clear hK K
      refine normA ?_
      refine one_ (i := 7) (N := some 24) #[true, true, true, true, true, true, true, true, false, false, false, false] rfl rfl (one_of HT_.out (by kernel_rfl)) (by decide) (fun K hK => ?_)
      refine goes_ Try.func91 (by kernel_rfl) rfl #[.int .i64 (rd l2 1)] (by rfl) rfl rfl gsA ?_
      with_reducible refine (steepleref25_v.calls (rd l2 1) t213 t214 t215 t216 t217 _ A17.out).mono ?_
      rintro e w21 ⟨rfl, hb⟩
      refine ⟨_, rfl, ?_⟩
      have n0_ := Aside0.mk (blk_below (bkA BK203.out) hb); have n1_ := Aside0.mk (blk_below (bkA BK204.out) hb); have n2_ := Aside0.mk (below_step (blA HB.out) hb); clear BK203; clear BK204; clear HB; have BK203 := n0_; have BK204 := n1_; have HB := n2_; clear n0_ n1_ n2_
      (try clear hb)
      refine hK.out _ _ ⟨(clA HB.out hw206_0), (clA HB.out hw212_0)⟩ (fun hHeld => ?_)
      clear hK K
      refine normA ?_
      refine one_ (i := 8) (N := some 25) #[true, true, true, true, true, true, true, true, true, false, false, false] rfl rfl (one_of HT_.out (by kernel_rfl)) (by decide) (fun K hK => ?_)
      refine goes_ Try.func92 (by kernel_rfl) rfl #[.int .i64 0, .int .i64 1] (by rfl) rfl rfl gsA ?_
      with_reducible refine (steepleref25_plus.calls 0 1 t218 t219 t220 t221 t222 _ A18.out).mono ?_
      rintro e w22 ⟨rfl, hb⟩
      refine ⟨_, rfl, ?_⟩
      have n0_ := Aside0.mk (blk_below (bkA BK203.out) hb); have n1_ := Aside0.mk (blk_below (bkA BK204.out) hb); have n2_ := Aside0.mk (below_step (blA HB.out) hb); clear BK203; clear BK204; clear HB; have BK203 := n0_; have BK204 := n1_; have HB := n2_; clear n0_ n1_ n2_
      (try clear hb)
      refine hK.out _ _ ⟨(clA HB.out hw206_0), (clA HB.out hw212_0)⟩ (fun hHeld => ?_)
      clear hK K
      refine normA ?_
      refine one_ (i := 9) (N := some 26) #[true, true, true, true, true, true, true, true, true, true, false, false] rfl rfl (one_of HT_.out (by kernel_rfl)) (by decide) (fun K hK => ?_)
      refine Kd.R_lit_step k52 _ 52 ?hg (N := 26) ?hd (xs := ([(⟨t207, t208, t209, (⟨t210, t211⟩ : S45)⟩ : S52), (⟨t213, t214, t215, (⟨t216, t217⟩ : S45)⟩ : S52), (⟨t218, t219, t220, (⟨t221, t222⟩ : S45)⟩ : S52)] : List (S52))) (inner := [.int .i64 t207, .int .i64 t208, .int .i64 t209, .int .u64 t210, .int .u64 t211, .int .i64 t213, .int .i64 t214, .int .i64 t215, .int .u64 t216, .int .u64 t217, .int .i64 t218, .int .i64 t219, .int .i64 t220, .int .u64 t221, .int .u64 t222]) (ok := fun _ => True) (okp := fun _ => True) ?hr ?hp (fun _ hk => hk) trivial (Below.refl _ _) (Nat.le_refl _) (by simp) ?_; (case hd => rfl); (case hg => rfl); (case hr => first | (go_simp; done) | (go_simp; rfl)); (case hp => exact (Reps.c5 (show Kd.M k52 _ _ _ (⟨t207, t208, t209, (⟨t210, t211⟩ : S45)⟩ : S52) [.int .i64 t207, .int .i64 t208, .int .i64 t209, .int .u64 t210, .int .u64 t211] from (k52_mkM _ _ _ (⟨t207, t208, t209, (⟨t210, t211⟩ : S45)⟩ : S52) )) (Reps.c5 (show Kd.M k52 _ _ _ (⟨t213, t214, t215, (⟨t216, t217⟩ : S45)⟩ : S52) [.int .i64 t213, .int .i64 t214, .int .i64 t215, .int .u64 t216, .int .u64 t217] from (k52_mkM _ _ _ (⟨t213, t214, t215, (⟨t216, t217⟩ : S45)⟩ : S52) )) (Reps.c5 (show Kd.M k52 _ _ _ (⟨t218, t219, t220, (⟨t221, t222⟩ : S45)⟩ : S52) [.int .i64 t218, .int .i64 t219, .int .i64 t220, .int .u64 t221, .int .u64 t222] from (k52_mkM _ _ _ (⟨t218, t219, t220, (⟨t221, t222⟩ : S45)⟩ : S52) )) (Reps.none _ _)))))
      intro v224 w23 ho24 hb hg_ hnew_
      clear hg_ hnew_
      (first | rw [← Ny223.out] at ho24 | (simp only [Int.reduceToNat] at ho24; rw [← Ny223.out] at ho24))
      have n0_ := Aside0.mk (Kd.R_lower (Kd.R_newM (M := fun k_ => (w.heap.size ≤ k_)) ho24 (below_size (blA HB.out)) (fun k_ h_ => h_)) (below_size (blA HB.out)))
      have n1_ := Aside0.mk (blk_below (bkA BK203.out) hb); have n2_ := Aside0.mk (blk_below (bkA BK204.out) hb); have n3_ := Aside0.mk (below_step (blA HB.out) hb); clear BK203; clear BK204; clear HB; have HO225 := n0_; have BK203 := n1_; have BK204 := n2_; have HB := n3_; clear n0_ n1_ n2_ n3_; clear hb ho24; obtain ⟨Ao25, co25, eo25⟩ := Kd.R_slice HO225.out
      (first | subst eo25 | (injection eo25 with f1_ f2_ f3_; have f4_ := f1_.symm; have f5_ := f3_.symm; clear f1_ f2_ f3_; subst f4_; subst f5_))
      refine hK.out _ _ ⟨(clA HB.out hw206_0), (clA HB.out hw212_0)⟩ (fun hHeld => ?_)
      clear hK K
      refine normA ?_
      refine one_ (i := 10) (N := some 27) #[true, true, true, true, true, true, true, true, true, true, true, false] rfl rfl (one_of HT_.out (by kernel_rfl)) (by decide) (fun K hK => ?_)
      refine Kd.N_lit_step (Kd.slice 52 k52) _ 48 ?hg (N' := 27) ?hd (xs := ([y223] : List (List (S52)))) (inner := [.slice Ao25 y223.length co25]) (ok := (fun k_ => (w.heap.size ≤ k_) ∧ k_ ≠ gb203 ∧ k_ ≠ gb204)) (okp := (fun k_ => (w.heap.size ≤ k_) ∧ k_ ≠ gb203 ∧ k_ ≠ gb204)) ?hr ?hp (fun _ hk => hk) ((show ∀ k_, w23.heap.size ≤ k_ → (fun k_ => (w.heap.size ≤ k_) ∧ k_ ≠ gb203 ∧ k_ ≠ gb204) k_ from fun k_ hk => ⟨(Nat.le_trans (below_size (blA HB.out)) hk), Kd.freshB (bkA BK203.out) k_ hk, Kd.freshB (bkA BK204.out) k_ hk⟩) _ (Nat.le_refl _)) (Below.refl _ _) (Nat.le_refl _) (by simp) ?_; (case hd => rfl); (case hg => rfl); (case hr => first | (go_simp; done) | (go_simp; rfl)); (case hp => exact (Reps.one (show Kd.FK (Kd.slice 52 k52) _ _ y223 [.slice Ao25 y223.length co25] from (Kd.FK_slice_mk (Kd.R_reads' (Kd.R_mono (ok' := (fun k_ => (w.heap.size ≤ k_) ∧ k_ ≠ gb203 ∧ k_ ≠ gb204)) (Kd.R_types (Kd.R_types (HO225.out) BK203.out (by decide)) BK204.out (by decide)) (fun k_ hk => by first | exact ⟨hk.1.1.1, ⟨hk.1.2, hk.2⟩⟩ | exact ⟨hk.1.1, ⟨hk.1.2, hk.2⟩⟩))).2.1 (Kd.R_F (Kd.R_mono (ok' := (fun k_ => (w.heap.size ≤ k_) ∧ k_ ≠ gb203 ∧ k_ ≠ gb204)) (Kd.R_types (Kd.R_types (HO225.out) BK203.out (by decide)) BK204.out (by decide)) (fun k_ hk => by first | exact ⟨hk.1.1.1, ⟨hk.1.2, hk.2⟩⟩ | exact ⟨hk.1.1, ⟨hk.1.2, hk.2⟩⟩))))) (Reps.none _ _)))
      intro v227 w26 ho27 hb hg_ hnew_
      clear hg_ hnew_
      (first | rw [← Ny226.out] at ho27 | (simp only [Int.reduceToNat] at ho27; rw [← Ny226.out] at ho27))
      have n0_ := Aside0.mk (Kd.N_lower ho27 (below_size (blA HB.out))); have n1_ := Aside0.mk (blk_below (bkA BK203.out) hb); have n2_ := Aside0.mk (blk_below (bkA BK204.out) hb); have n3_ := Aside0.mk (below_step (blA HB.out) hb); clear BK203; clear BK204; clear HB; clear HO225; have HO228 := n0_; have BK203 := n1_; have BK204 := n2_; have HB := n3_; clear n0_ n1_ n2_ n3_; clear hb ho27
      refine hK.out _ _ ⟨(clA HB.out hw206_0), (clA HB.out hw212_0)⟩ (fun hHeld => ?_)
      clear hK K
      refine normA ?_
      refine pureA 11 (some 6) HT_.out ?_
      refine done_ (done_of HT_.out (by kernel_rfl)) ?_
      try go_wp2
      go_ret
      exact ⟨_, by first | rfl | (simp [errW_none, errW_some] <;> rfl) | (simp [*, errW_none, errW_some] <;> rfl), by (with_reducible repeat (first | apply Kd.N_alloc | apply Kd.N_drewN | apply Kd.N_drew)); exact Kd.N_mono HO228.out (fun _ hk => hk.1), blA HB.out⟩
     ·rw [if_neg c16] at H
      exact absurd H (by simp)
    ·rw [if_neg c14] at H
     exact absurd H (by simp)
   ·replace c13 := Bool.eq_false_iff.mpr c13; subst c13
    have H1 : (if a1_0 = 3 then (if 0 < (l2.length : Int) then ((steepleref25_v.f (rd l2 0)).bind fun bt230 => (if 1 < (l2.length : Int) then ((steepleref25_v.f (rd l2 1)).bind fun bt236 => ((steepleref25_plus.f 0 1).bind fun bt241 => ((steepleref25_plus.f 2 3).bind fun bt246 => (some (([(([(⟨bt230.1, bt230.2.1, bt230.2.2.1, (⟨bt230.2.2.2.1, bt230.2.2.2.2⟩ : S45)⟩ : S52), (⟨bt236.1, bt236.2.1, bt236.2.2.1, (⟨bt236.2.2.2.1, bt236.2.2.2.2⟩ : S45)⟩ : S52), (⟨bt241.1, bt241.2.1, bt241.2.2.1, (⟨bt241.2.2.2.1, bt241.2.2.2.2⟩ : S45)⟩ : S52), (⟨1, 0, 0, (⟨0, 1⟩ : S45)⟩ : S52), (⟨bt246.1, bt246.2.1, bt246.2.2.1, (⟨bt246.2.2.2.1, bt246.2.2.2.2⟩ : S45)⟩ : S52)] : List (S52)))] : List (List (S52)))))))) else (none))) else (none)) else (if a1_0 = 1 then (if 0 < (l2.length : Int) then ((steepleref25_v.f (rd l2 0)).bind fun bt258 => (if 1 < (l2.length : Int) then ((steepleref25_v.f (rd l2 1)).bind fun bt264 => ((steepleref25_plus.f 0 1).bind fun bt269 => (if 2 < (l2.length : Int) then ((steepleref25_v.f (rd l2 2)).bind fun bt275 => ((steepleref25_plus.f 2 3).bind fun bt280 => (some (([(([(⟨bt258.1, bt258.2.1, bt258.2.2.1, (⟨bt258.2.2.2.1, bt258.2.2.2.2⟩ : S45)⟩ : S52), (⟨bt264.1, bt264.2.1, bt264.2.2.1, (⟨bt264.2.2.2.1, bt264.2.2.2.2⟩ : S45)⟩ : S52), (⟨bt269.1, bt269.2.1, bt269.2.2.1, (⟨bt269.2.2.2.1, bt269.2.2.2.2⟩ : S45)⟩ : S52), (⟨bt275.1, bt275.2.1, bt275.2.2.1, (⟨bt275.2.2.2.1, bt275.2.2.2.2⟩ : S45)⟩ : S52), (⟨bt280.1, bt280.2.1, bt280.2.2.1, (⟨bt280.2.2.2.1, bt280.2.2.2.2⟩ : S45)⟩ : S52)] : List (S52)))] : List (List (S52))))))) else (none)))) else (none))) else (none)) else (if a1_0 = 2 then (if 0 < (l2.length : Int) then ((steepleref25_v.f (rd l2 0)).bind fun bt292 => (if 1 < (l2.length : Int) then ((steepleref25_v.f (rd l2 1)).bind fun bt298 => (if 2 < (l2.length : Int) then ((steepleref25_v.f (rd l2 2)).bind fun bt304 => ((steepleref25_times.f 1 2).bind fun bt309 => ((steepleref25_plus.f 0 3).bind fun bt314 => (some (([(([(⟨bt292.1, bt292.2.1, bt292.2.2.1, (⟨bt292.2.2.2.1, bt292.2.2.2.2⟩ : S45)⟩ : S52), (⟨bt298.1, bt298.2.1, bt298.2.2.1, (⟨bt298.2.2.2.1, bt298.2.2.2.2⟩ : S45)⟩ : S52), (⟨bt304.1, bt304.2.1, bt304.2.2.1, (⟨bt304.2.2.2.1, bt304.2.2.2.2⟩ : S45)⟩ : S52), (⟨bt309.1, bt309.2.1, bt309.2.2.1, (⟨bt309.2.2.2.1, bt309.2.2.2.2⟩ : S45)⟩ : S52), (⟨bt314.1, bt314.2.1, bt314.2.2.1, (⟨bt314.2.2.2.1, bt314.2.2.2.2⟩ : S45)⟩ : S52)] : List (S52)))] : List (List (S52)))))))) else (none))) else (none))) else (none)) else (if a0_0 = 0 then (if 0 < (l2.length : Int) then ((steepleref25_v.f (rd l2 0)).bind fun bt326 => (if 1 < (l2.length : Int) then ((steepleref25_v.f (rd l2 1)).bind fun bt332 => ((steepleref25_plus.f 0 1).bind fun bt337 => (if 2 < (l2.length : Int) then ((steepleref25_v.f (rd l2 2)).bind fun bt343 => ((steepleref25_plus.f 2 3).bind fun bt348 => (if 3 < (l2.length : Int) then ((steepleref25_v.f (rd l2 3)).bind fun bt357 => ((steepleref25_v.f (rd l2 1)).bind fun bt363 => ((steepleref25_v.f (rd l2 2)).bind fun bt369 => ((steepleref25_times.f 1 2).bind fun bt374 => ((steepleref25_plus.f 0 3).bind fun bt379 => (some (([(([(⟨bt326.1, bt326.2.1, bt326.2.2.1, (⟨bt326.2.2.2.1, bt326.2.2.2.2⟩ : S45)⟩ : S52), (⟨bt332.1, bt332.2.1, bt332.2.2.1, (⟨bt332.2.2.2.1, bt332.2.2.2.2⟩ : S45)⟩ : S52), (⟨bt337.1, bt337.2.1, bt337.2.2.1, (⟨bt337.2.2.2.1, bt337.2.2.2.2⟩ : S45)⟩ : S52), (⟨bt343.1, bt343.2.1, bt343.2.2.1, (⟨bt343.2.2.2.1, bt343.2.2.2.2⟩ : S45)⟩ : S52), (⟨bt348.1, bt348.2.1, bt348.2.2.1, (⟨bt348.2.2.2.1, bt348.2.2.2.2⟩ : S45)⟩ : S52)] : List (S52))), (([(⟨bt357.1, bt357.2.1, bt357.2.2.1, (⟨bt357.2.2.2.1, bt357.2.2.2.2⟩ : S45)⟩ : S52), (⟨bt363.1, bt363.2.1, bt363.2.2.1, (⟨bt363.2.2.2.1, bt363.2.2.2.2⟩ : S45)⟩ : S52), (⟨bt369.1, bt369.2.1, bt369.2.2.1, (⟨bt369.2.2.2.1, bt369.2.2.2.2⟩ : S45)⟩ : S52), (⟨bt374.1, bt374.2.1, bt374.2.2.1, (⟨bt374.2.2.2.1, bt374.2.2.2.2⟩ : S45)⟩ : S52), (⟨bt379.1, bt379.2.1, bt379.2.2.1, (⟨bt379.2.2.2.1, bt379.2.2.2.2⟩ : S45)⟩ : S52)] : List (S52)))] : List (List (S52)))))))))) else (none)))) else (none)))) else (none))) else (none)) else (if 0 < (l2.length : Int) then ((steepleref25_v.f (rd l2 0)).bind fun bt391 => (if 1 < (l2.length : Int) then ((steepleref25_v.f (rd l2 1)).bind fun bt397 => ((steepleref25_plus.f 0 1).bind fun bt402 => (if 2 < (l2.length : Int) then ((steepleref25_v.f (rd l2 2)).bind fun bt408 => ((steepleref25_plus.f 2 3).bind fun bt413 => (if 4 < (l2.length : Int) then ((steepleref25_v.f (rd l2 4)).bind fun bt419 => ((steepleref25_plus.f 4 5).bind fun bt424 => (if 3 < (l2.length : Int) then ((steepleref25_v.f (rd l2 3)).bind fun bt433 => ((steepleref25_v.f (rd l2 1)).bind fun bt439 => ((steepleref25_v.f (rd l2 2)).bind fun bt445 => ((steepleref25_times.f 1 2).bind fun bt450 => ((steepleref25_plus.f 0 3).bind fun bt455 => ((steepleref25_v.f (rd l2 4)).bind fun bt461 => ((steepleref25_v.f (rd l2 1)).bind fun bt467 => ((steepleref25_v.f (rd l2 2)).bind fun bt473 => ((steepleref25_plus.f 6 7).bind fun bt478 => ((steepleref25_times.f 5 8).bind fun bt483 => ((steepleref25_plus.f 4 9).bind fun bt488 => (some (([(([(⟨bt391.1, bt391.2.1, bt391.2.2.1, (⟨bt391.2.2.2.1, bt391.2.2.2.2⟩ : S45)⟩ : S52), (⟨bt397.1, bt397.2.1, bt397.2.2.1, (⟨bt397.2.2.2.1, bt397.2.2.2.2⟩ : S45)⟩ : S52), (⟨bt402.1, bt402.2.1, bt402.2.2.1, (⟨bt402.2.2.2.1, bt402.2.2.2.2⟩ : S45)⟩ : S52), (⟨bt408.1, bt408.2.1, bt408.2.2.1, (⟨bt408.2.2.2.1, bt408.2.2.2.2⟩ : S45)⟩ : S52), (⟨bt413.1, bt413.2.1, bt413.2.2.1, (⟨bt413.2.2.2.1, bt413.2.2.2.2⟩ : S45)⟩ : S52), (⟨bt419.1, bt419.2.1, bt419.2.2.1, (⟨bt419.2.2.2.1, bt419.2.2.2.2⟩ : S45)⟩ : S52), (⟨bt424.1, bt424.2.1, bt424.2.2.1, (⟨bt424.2.2.2.1, bt424.2.2.2.2⟩ : S45)⟩ : S52)] : List (S52))), (([(⟨bt433.1, bt433.2.1, bt433.2.2.1, (⟨bt433.2.2.2.1, bt433.2.2.2.2⟩ : S45)⟩ : S52), (⟨bt439.1, bt439.2.1, bt439.2.2.1, (⟨bt439.2.2.2.1, bt439.2.2.2.2⟩ : S45)⟩ : S52), (⟨bt445.1, bt445.2.1, bt445.2.2.1, (⟨bt445.2.2.2.1, bt445.2.2.2.2⟩ : S45)⟩ : S52), (⟨bt450.1, bt450.2.1, bt450.2.2.1, (⟨bt450.2.2.2.1, bt450.2.2.2.2⟩ : S45)⟩ : S52), (⟨bt455.1, bt455.2.1, bt455.2.2.1, (⟨bt455.2.2.2.1, bt455.2.2.2.2⟩ : S45)⟩ : S52), (⟨bt461.1, bt461.2.1, bt461.2.2.1, (⟨bt461.2.2.2.1, bt461.2.2.2.2⟩ : S45)⟩ : S52), (⟨bt467.1, bt467.2.1, bt467.2.2.1, (⟨bt467.2.2.2.1, bt467.2.2.2.2⟩ : S45)⟩ : S52), (⟨bt473.1, bt473.2.1, bt473.2.2.1, (⟨bt473.2.2.2.1, bt473.2.2.2.2⟩ : S45)⟩ : S52), (⟨bt478.1, bt478.2.1, bt478.2.2.1, (⟨bt478.2.2.2.1, bt478.2.2.2.2⟩ : S45)⟩ : S52), (⟨bt483.1, bt483.2.1, bt483.2.2.1, (⟨bt483.2.2.2.1, bt483.2.2.2.2⟩ : S45)⟩ : S52), (⟨bt488.1, bt488.2.1, bt488.2.2.1, (⟨bt488.2.2.2.1, bt488.2.2.2.2⟩ : S45)⟩ : S52)] : List (S52)))] : List (List (S52)))))))))))))))) else (none)))) else (none)))) else (none)))) else (none))) else (none)))))) = some r := by rw [if_neg (show ¬ (false = true) by decide)] at H; exact H
    clear H; have H := H1; clear H1
    by_cases c28 : a1_0 = 3
    ·rw [if_pos c28] at H
     have c28b0 : (a1_0 == 3) = true := beq_iff_eq.mpr c28; have c28b1 : (a1_0 != 3) = false := bne_eq_false_iff_eq.mpr c28; clear c28
     by_cases c29 : 0 < (l2.length : Int)
     ·rw [if_pos c29] at H
      have c29b0 : decide (0 < (l2.length : Int)) = true := decide_eq_true c29
      have c29b1 : decide (0 < l2.length) = true := decide_eq_true (by omega)
      clear c29; replace H := Option.bind_eq_some_iff.mp H
      obtain ⟨⟨t230, t231, t232, t233, t234⟩, A300, H⟩ := H
      (try dsimp only at H)
      have A30 := Aside0.mk A300; clear A300
      by_cases c31 : 1 < (l2.length : Int)
      ·rw [if_pos c31] at H
       have c31b0 : decide (1 < (l2.length : Int)) = true := decide_eq_true c31
       have c31b1 : decide (1 < l2.length) = true := decide_eq_true (by omega)
       clear c31; replace H := Option.bind_eq_some_iff.mp H
       obtain ⟨⟨t236, t237, t238, t239, t240⟩, A320, H⟩ := H
       (try dsimp only at H)
       have A32 := Aside0.mk A320; clear A320; replace H := Option.bind_eq_some_iff.mp H
       obtain ⟨⟨t241, t242, t243, t244, t245⟩, A330, H⟩ := H
       (try dsimp only at H)
       have A33 := Aside0.mk A330; clear A330; replace H := Option.bind_eq_some_iff.mp H
       obtain ⟨⟨t246, t247, t248, t249, t250⟩, A340, H⟩ := H
       (try dsimp only at H); have A34 := Aside0.mk A340; clear A340
       obtain ⟨y251, hy251⟩ : ∃ y_ : List (S52), y_ = (([(⟨t230, t231, t232, (⟨t233, t234⟩ : S45)⟩ : S52), (⟨t236, t237, t238, (⟨t239, t240⟩ : S45)⟩ : S52), (⟨t241, t242, t243, (⟨t244, t245⟩ : S45)⟩ : S52), (⟨1, 0, 0, (⟨0, 1⟩ : S45)⟩ : S52), (⟨t246, t247, t248, (⟨t249, t250⟩ : S45)⟩ : S52)] : List (S52))) := ⟨_, rfl⟩
       replace H : (some (([y251] : List (List (S52))))) = some r := by first | (rw [hy251]; with_reducible exact H) | (have H2_ := (Option.bind_some _ _).symm.trans H; rw [hy251]; with_reducible exact H2_) | (have H2_ := (Option.bind_some _ _).symm.trans H; with_reducible exact H2_) | with_reducible exact H | (rw [hy251]; exact H) | exact H
       have Ny251 := Aside0.mk hy251; clear hy251
       obtain ⟨y254, hy254⟩ : ∃ y_ : List (List (S52)), y_ = (([y251] : List (List (S52)))) := ⟨_, rfl⟩
       replace H : (some y254) = some r := by first | (rw [hy254]; with_reducible exact H) | (have H2_ := (Option.bind_some _ _).symm.trans H; rw [hy254]; with_reducible exact H2_) | (have H2_ := (Option.bind_some _ _).symm.trans H; with_reducible exact H2_) | with_reducible exact H | (rw [hy254]; exact H) | exact H
       have Ny254 := Aside0.mk hy254; clear hy254; obtain rfl := Option.some.inj H; have hnb35 := NB204_203.out; have hnc35 := NB203_204.out
       have hcz36 := fun i => blk_cell BK204.out i
       have hfz36 := fun i => blk_frozen BK204.out i
       try go_wp2
       have n0_ := Aside0.mk (blk_drew BK203.out); have n1_ := Aside0.mk (blk_drew BK204.out); have n2_ := Aside0.mk (below_drew1 HB.out); clear BK203; clear BK204; clear HB; have BK203 := n0_; have BK204 := n1_; have HB := n2_; clear n0_ n1_ n2_
       have p229 : 0 ≤ (0 : Int) := (by omega)
       have q229 : 0 < (l2.length : Int) := of_decide_eq_true (by first | (with_reducible assumption) | assumption)
       obtain ⟨ad229, e229, hx229_0⟩ := Kd.at_int HR2.out 0 p229 q229; have hw229_0 := hx229_0
       (try rw [show ((0 : Int)).toNat = 0 from rfl] at hw229_0)
       (try rw [show 0 * 1 = 0 from rfl] at hw229_0)
       (try rw [Addr.add_zero'] at hw229_0)
       cases e229
       have qi229 : (0 < l2.length) = True := eq_true (by omega)
       (try rw [show ((0 : Int)).toNat = 0 from rfl] at hx229_0)
       (try rw [Addr.add_zero'] at hx229_0)
       replace hx229_0 := (HB.out.cell (World.block_lt_of_cell? w _ hx229_0)).trans hx229_0; replace p229 := eq_true p229; replace q229 := eq_true q229
       have p235 : 0 ≤ (1 : Int) := (by omega)
       have q235 : 1 < (l2.length : Int) := of_decide_eq_true (by first | (with_reducible assumption) | assumption)
       obtain ⟨ad235, e235, hx235_0⟩ := Kd.at_int HR2.out 1 p235 q235; have hw235_0 := hx235_0
       (try rw [show ((1 : Int)).toNat = 1 from rfl] at hw235_0)
       (try rw [show 1 * 1 = 1 from rfl] at hw235_0)
       (try simp only [Nat.reduceMul, Nat.reduceEqDiff, Go.Addr.add, ↓reduceIte] at hw235_0)
       obtain rfl : ad229 = ad235 := (by injection e235)
       (try simp only [show (1 : Int).toNat = 1 from rfl, Nat.reduceMul, Nat.reduceEqDiff, Go.Addr.add, ↓reduceIte] at hx235_0)
       have qi235 : (1 < l2.length) = True := eq_true (by omega)
       (try rw [show ((1 : Int)).toNat = 1 from rfl] at hx235_0)
       replace hx235_0 := (HB.out.cell (World.block_lt_of_cell? w _ hx235_0)).trans hx235_0; replace p235 := eq_true p235; replace q235 := eq_true q235
       refine start_ (n := 15) (S := fun w' => w'.cell? ad229 = some (.int .i64 (rd l2 0)) ∧ w'.cell? ⟨ad229.block, ad229.off + 1, none⟩ = some (.int .i64 (rd l2 1))) (ds := []) #[false, false, false, false, false, false, false, false, false, false, false, false, false, false, false] (by kernel_rfl) rfl rfl ⟨(clA HB.out hw229_0), (clA HB.out hw235_0)⟩ (fun hHeld => ?_); refine with_tabW steepleref25_System_Laid.tab4 steepleref25_System_Laid.bits4 (fun HT_ HW_ => ?_)
       generalize wc.drew = w37 at BK203 BK204 HB hx229_0 hx235_0 hHeld ⊢
       refine pureA 0 (some 31) HT_.out ?_
       refine pureA 1 (some 32) HT_.out ?_
       refine pureA 4 (some 35) HT_.out ?_
       refine pureA 5 (some 36) HT_.out ?_
       refine pureA 9 (some 40) HT_.out ?_
       refine pureA 10 (some 41) HT_.out ?_
       refine takeA 2 (some 33) rfl HT_.out HW_.out hHeld (Or.inl ⟨by rfl, by rintro w' ⟨s0, s1⟩; go_simp; with_reducible rfl⟩) ?_
       refine takeA 6 (some 37) rfl HT_.out HW_.out hHeld (Or.inl ⟨by rfl, by rintro w' ⟨s0, s1⟩; go_simp; with_reducible rfl⟩) ?_
       refine one_ (i := 3) (N := some 34) #[true, true, true, true, true, true, true, false, false, true, true, false, false, false, false] rfl rfl (one_of HT_.out (by kernel_rfl)) (by decide) (fun K hK => ?_)
       refine goes_ Try.func91 (by kernel_rfl) rfl #[.int .i64 (rd l2 0)] (by rfl) rfl rfl gsA ?_
       with_reducible refine (steepleref25_v.calls (rd l2 0) t230 t231 t232 t233 t234 _ A30.out).mono ?_
       rintro e w38 ⟨rfl, hb⟩
       refine ⟨_, rfl, ?_⟩
       have n0_ := Aside0.mk (blk_below (bkA BK203.out) hb); have n1_ := Aside0.mk (blk_below (bkA BK204.out) hb); have n2_ := Aside0.mk (below_step (blA HB.out) hb); clear BK203; clear BK204; clear HB; have BK203 := n0_; have BK204 := n1_; have HB := n2_; clear n0_ n1_ n2_
       (try clear hb)
       refine hK.out _ _ ⟨(clA HB.out hw229_0), (clA HB.out hw235_0)⟩ (fun hHeld => ?_)
       clear hK K
       refine normA ?_
       refine one_ (i := 7) (N := some 38) #[true, true, true, true, true, true, true, true, false, true, true, false, false, false, false] rfl rfl (one_of HT_.out (by kernel_rfl)) (by decide) (fun K hK => ?_)
       refine goes_ Try.func91 (by kernel_rfl) rfl #[.int .i64 (rd l2 1)] (by rfl) rfl rfl gsA ?_
       with_reducible refine (steepleref25_v.calls (rd l2 1) t236 t237 t238 t239 t240 _ A32.out).mono ?_
       rintro e w39 ⟨rfl, hb⟩
       refine ⟨_, rfl, ?_⟩
       have n0_ := Aside0.mk (blk_below (bkA BK203.out) hb); have n1_ := Aside0.mk (blk_below (bkA BK204.out) hb); have n2_ := Aside0.mk (below_step (blA HB.out) hb); clear BK203; clear BK204; clear HB; have BK203 := n0_; have BK204 := n1_; have HB := n2_; clear n0_ n1_ n2_
       (try clear hb)
       refine hK.out _ _ ⟨(clA HB.out hw229_0), (clA HB.out hw235_0)⟩ (fun hHeld => ?_)
       clear hK K
       refine normA ?_
       refine one_ (i := 8) (N := some 39) #[true, true, true, true, true, true, true, true, true, true, true, false, false, false, false] rfl rfl (one_of HT_.out (by kernel_rfl)) (by decide) (fun K hK => ?_)
       refine goes_ Try.func92 (by kernel_rfl) rfl #[.int .i64 0, .int .i64 1] (by rfl) rfl rfl gsA ?_
       with_reducible refine (steepleref25_plus.calls 0 1 t241 t242 t243 t244 t245 _ A33.out).mono ?_
       rintro e w40 ⟨rfl, hb⟩
       refine ⟨_, rfl, ?_⟩
       have n0_ := Aside0.mk (blk_below (bkA BK203.out) hb); have n1_ := Aside0.mk (blk_below (bkA BK204.out) hb); have n2_ := Aside0.mk (below_step (blA HB.out) hb); clear BK203; clear BK204; clear HB; have BK203 := n0_; have BK204 := n1_; have HB := n2_; clear n0_ n1_ n2_
       (try clear hb)
       refine hK.out _ _ ⟨(clA HB.out hw229_0), (clA HB.out hw235_0)⟩ (fun hHeld => ?_)
       clear hK K
       refine normA ?_
       refine one_ (i := 11) (N := some 42) #[true, true, true, true, true, true, true, true, true, true, true, true, false, false, false] rfl rfl (one_of HT_.out (by kernel_rfl)) (by decide) (fun K hK => ?_)
       refine goes_ Try.func92 (by kernel_rfl) rfl #[.int .i64 2, .int .i64 3] (by rfl) rfl rfl gsA ?_
       with_reducible refine (steepleref25_plus.calls 2 3 t246 t247 t248 t249 t250 _ A34.out).mono ?_
       rintro e w41 ⟨rfl, hb⟩
       refine ⟨_, rfl, ?_⟩
       have n0_ := Aside0.mk (blk_below (bkA BK203.out) hb); have n1_ := Aside0.mk (blk_below (bkA BK204.out) hb); have n2_ := Aside0.mk (below_step (blA HB.out) hb); clear BK203; clear BK204; clear HB; have BK203 := n0_; have BK204 := n1_; have HB := n2_; clear n0_ n1_ n2_
       (try clear hb)
       refine hK.out _ _ ⟨(clA HB.out hw229_0), (clA HB.out hw235_0)⟩ (fun hHeld => ?_)
       clear hK K
       refine normA ?_
       refine one_ (i := 12) (N := some 43) #[true, true, true, true, true, true, true, true, true, true, true, true, true, false, false] rfl rfl (one_of HT_.out (by kernel_rfl)) (by decide) (fun K hK => ?_)
       refine Kd.R_lit_step k52 _ 52 ?hg (N := 43) ?hd (xs := ([(⟨t230, t231, t232, (⟨t233, t234⟩ : S45)⟩ : S52), (⟨t236, t237, t238, (⟨t239, t240⟩ : S45)⟩ : S52), (⟨t241, t242, t243, (⟨t244, t245⟩ : S45)⟩ : S52), (⟨1, 0, 0, (⟨0, 1⟩ : S45)⟩ : S52), (⟨t246, t247, t248, (⟨t249, t250⟩ : S45)⟩ : S52)] : List (S52))) (inner := [.int .i64 t230, .int .i64 t231, .int .i64 t232, .int .u64 t233, .int .u64 t234, .int .i64 t236, .int .i64 t237, .int .i64 t238, .int .u64 t239, .int .u64 t240, .int .i64 t241, .int .i64 t242, .int .i64 t243, .int .u64 t244, .int .u64 t245, .int .i64 1, .int .i64 0, .int .i64 0, .int .u64 0, .int .u64 1, .int .i64 t246, .int .i64 t247, .int .i64 t248, .int .u64 t249, .int .u64 t250]) (ok := fun _ => True) (okp := fun _ => True) ?hr ?hp (fun _ hk => hk) trivial (Below.refl _ _) (Nat.le_refl _) (by simp) ?_; (case hd => rfl); (case hg => rfl); (case hr => first | (go_simp; done) | (go_simp; rfl)); (case hp => exact (Reps.c5 (show Kd.M k52 _ _ _ (⟨t230, t231, t232, (⟨t233, t234⟩ : S45)⟩ : S52) [.int .i64 t230, .int .i64 t231, .int .i64 t232, .int .u64 t233, .int .u64 t234] from (k52_mkM _ _ _ (⟨t230, t231, t232, (⟨t233, t234⟩ : S45)⟩ : S52) )) (Reps.c5 (show Kd.M k52 _ _ _ (⟨t236, t237, t238, (⟨t239, t240⟩ : S45)⟩ : S52) [.int .i64 t236, .int .i64 t237, .int .i64 t238, .int .u64 t239, .int .u64 t240] from (k52_mkM _ _ _ (⟨t236, t237, t238, (⟨t239, t240⟩ : S45)⟩ : S52) )) (Reps.c5 (show Kd.M k52 _ _ _ (⟨t241, t242, t243, (⟨t244, t245⟩ : S45)⟩ : S52) [.int .i64 t241, .int .i64 t242, .int .i64 t243, .int .u64 t244, .int .u64 t245] from (k52_mkM _ _ _ (⟨t241, t242, t243, (⟨t244, t245⟩ : S45)⟩ : S52) )) (Reps.c5 (show Kd.M k52 _ _ _ (⟨1, 0, 0, (⟨0, 1⟩ : S45)⟩ : S52) [.int .i64 1, .int .i64 0, .int .i64 0, .int .u64 0, .int .u64 1] from (k52_mkM _ _ _ (⟨1, 0, 0, (⟨0, 1⟩ : S45)⟩ : S52) )) (Reps.c5 (show Kd.M k52 _ _ _ (⟨t246, t247, t248, (⟨t249, t250⟩ : S45)⟩ : S52) [.int .i64 t246, .int .i64 t247, .int .i64 t248, .int .u64 t249, .int .u64 t250] from (k52_mkM _ _ _ (⟨t246, t247, t248, (⟨t249, t250⟩ : S45)⟩ : S52) )) (Reps.none _ _)))))))
       intro v252 w42 ho43 hb hg_ hnew_
       clear hg_ hnew_
       (first | rw [← Ny251.out] at ho43 | (simp only [Int.reduceToNat] at ho43; rw [← Ny251.out] at ho43))
       have n0_ := Aside0.mk (Kd.R_lower (Kd.R_newM (M := fun k_ => (w.heap.size ≤ k_)) ho43 (below_size (blA HB.out)) (fun k_ h_ => h_)) (below_size (blA HB.out)))
       have n1_ := Aside0.mk (blk_below (bkA BK203.out) hb); have n2_ := Aside0.mk (blk_below (bkA BK204.out) hb); have n3_ := Aside0.mk (below_step (blA HB.out) hb); clear BK203; clear BK204; clear HB; have HO253 := n0_; have BK203 := n1_; have BK204 := n2_; have HB := n3_; clear n0_ n1_ n2_ n3_; clear hb ho43; obtain ⟨Ao44, co44, eo44⟩ := Kd.R_slice HO253.out
       (first | subst eo44 | (injection eo44 with f1_ f2_ f3_; have f4_ := f1_.symm; have f5_ := f3_.symm; clear f1_ f2_ f3_; subst f4_; subst f5_))
       refine hK.out _ _ ⟨(clA HB.out hw229_0), (clA HB.out hw235_0)⟩ (fun hHeld => ?_)
       clear hK K
       refine normA ?_
       refine one_ (i := 13) (N := some 44) #[true, true, true, true, true, true, true, true, true, true, true, true, true, true, false] rfl rfl (one_of HT_.out (by kernel_rfl)) (by decide) (fun K hK => ?_)
       refine Kd.N_lit_step (Kd.slice 52 k52) _ 48 ?hg (N' := 44) ?hd (xs := ([y251] : List (List (S52)))) (inner := [.slice Ao44 y251.length co44]) (ok := (fun k_ => (w.heap.size ≤ k_) ∧ k_ ≠ gb203 ∧ k_ ≠ gb204)) (okp := (fun k_ => (w.heap.size ≤ k_) ∧ k_ ≠ gb203 ∧ k_ ≠ gb204)) ?hr ?hp (fun _ hk => hk) ((show ∀ k_, w42.heap.size ≤ k_ → (fun k_ => (w.heap.size ≤ k_) ∧ k_ ≠ gb203 ∧ k_ ≠ gb204) k_ from fun k_ hk => ⟨(Nat.le_trans (below_size (blA HB.out)) hk), Kd.freshB (bkA BK203.out) k_ hk, Kd.freshB (bkA BK204.out) k_ hk⟩) _ (Nat.le_refl _)) (Below.refl _ _) (Nat.le_refl _) (by simp) ?_; (case hd => rfl); (case hg => rfl); (case hr => first | (go_simp; done) | (go_simp; rfl)); (case hp => exact (Reps.one (show Kd.FK (Kd.slice 52 k52) _ _ y251 [.slice Ao44 y251.length co44] from (Kd.FK_slice_mk (Kd.R_reads' (Kd.R_mono (ok' := (fun k_ => (w.heap.size ≤ k_) ∧ k_ ≠ gb203 ∧ k_ ≠ gb204)) (Kd.R_types (Kd.R_types (HO253.out) BK203.out (by decide)) BK204.out (by decide)) (fun k_ hk => by first | exact ⟨hk.1.1.1, ⟨hk.1.2, hk.2⟩⟩ | exact ⟨hk.1.1, ⟨hk.1.2, hk.2⟩⟩))).2.1 (Kd.R_F (Kd.R_mono (ok' := (fun k_ => (w.heap.size ≤ k_) ∧ k_ ≠ gb203 ∧ k_ ≠ gb204)) (Kd.R_types (Kd.R_types (HO253.out) BK203.out (by decide)) BK204.out (by decide)) (fun k_ hk => by first | exact ⟨hk.1.1.1, ⟨hk.1.2, hk.2⟩⟩ | exact ⟨hk.1.1, ⟨hk.1.2, hk.2⟩⟩))))) (Reps.none _ _)))
       intro v255 w45 ho46 hb hg_ hnew_
       clear hg_ hnew_
       (first | rw [← Ny254.out] at ho46 | (simp only [Int.reduceToNat] at ho46; rw [← Ny254.out] at ho46))
       have n0_ := Aside0.mk (Kd.N_lower ho46 (below_size (blA HB.out))); have n1_ := Aside0.mk (blk_below (bkA BK203.out) hb); have n2_ := Aside0.mk (blk_below (bkA BK204.out) hb); have n3_ := Aside0.mk (below_step (blA HB.out) hb); clear BK203; clear BK204; clear HB; clear HO253; have HO256 := n0_; have BK203 := n1_; have BK204 := n2_; have HB := n3_; clear n0_ n1_ n2_ n3_; clear hb ho46
       refine hK.out _ _ ⟨(clA HB.out hw229_0), (clA HB.out hw235_0)⟩ (fun hHeld => ?_)
       clear hK K
       refine normA ?_
       refine pureA 14 (some 6) HT_.out ?_
       refine done_ (done_of HT_.out (by kernel_rfl)) ?_
       try go_wp2
       go_ret
       exact ⟨_, by first | rfl | (simp [errW_none, errW_some] <;> rfl) | (simp [*, errW_none, errW_some] <;> rfl), by (with_reducible repeat (first | apply Kd.N_alloc | apply Kd.N_drewN | apply Kd.N_drew)); exact Kd.N_mono HO256.out (fun _ hk => hk.1), blA HB.out⟩
      ·rw [if_neg c31] at H
       exact absurd H (by simp)
     ·rw [if_neg c29] at H
      exact absurd H (by simp)
    ·rw [if_neg c28] at H
     have c28b0 : (a1_0 == 3) = false := beq_eq_false_iff_ne.mpr c28; have c28b1 : (a1_0 != 3) = true := bne_iff_ne.mpr c28
     by_cases c47 : a1_0 = 1
     ·rw [if_pos c47] at H
      have c47b0 : (a1_0 == 1) = true := beq_iff_eq.mpr c47; have c47b1 : (a1_0 != 1) = false := bne_eq_false_iff_eq.mpr c47; clear c47
      by_cases c48 : 0 < (l2.length : Int)
      ·rw [if_pos c48] at H
       have c48b0 : decide (0 < (l2.length : Int)) = true := decide_eq_true c48
       have c48b1 : decide (0 < l2.length) = true := decide_eq_true (by omega)
       clear c48; replace H := Option.bind_eq_some_iff.mp H
       obtain ⟨⟨t258, t259, t260, t261, t262⟩, A490, H⟩ := H
       (try dsimp only at H)
       have A49 := Aside0.mk A490; clear A490
       by_cases c50 : 1 < (l2.length : Int)
       ·rw [if_pos c50] at H
        have c50b0 : decide (1 < (l2.length : Int)) = true := decide_eq_true c50
        have c50b1 : decide (1 < l2.length) = true := decide_eq_true (by omega)
        clear c50; replace H := Option.bind_eq_some_iff.mp H
        obtain ⟨⟨t264, t265, t266, t267, t268⟩, A510, H⟩ := H
        (try dsimp only at H)
        have A51 := Aside0.mk A510; clear A510; replace H := Option.bind_eq_some_iff.mp H
        obtain ⟨⟨t269, t270, t271, t272, t273⟩, A520, H⟩ := H
        (try dsimp only at H)
        have A52 := Aside0.mk A520; clear A520
        by_cases c53 : 2 < (l2.length : Int)
        ·rw [if_pos c53] at H
         have c53b0 : decide (2 < (l2.length : Int)) = true := decide_eq_true c53
         have c53b1 : decide (2 < l2.length) = true := decide_eq_true (by omega)
         clear c53; replace H := Option.bind_eq_some_iff.mp H
         obtain ⟨⟨t275, t276, t277, t278, t279⟩, A540, H⟩ := H
         (try dsimp only at H)
         have A54 := Aside0.mk A540; clear A540; replace H := Option.bind_eq_some_iff.mp H
         obtain ⟨⟨t280, t281, t282, t283, t284⟩, A550, H⟩ := H
         (try dsimp only at H); have A55 := Aside0.mk A550; clear A550
         obtain ⟨y285, hy285⟩ : ∃ y_ : List (S52), y_ = (([(⟨t258, t259, t260, (⟨t261, t262⟩ : S45)⟩ : S52), (⟨t264, t265, t266, (⟨t267, t268⟩ : S45)⟩ : S52), (⟨t269, t270, t271, (⟨t272, t273⟩ : S45)⟩ : S52), (⟨t275, t276, t277, (⟨t278, t279⟩ : S45)⟩ : S52), (⟨t280, t281, t282, (⟨t283, t284⟩ : S45)⟩ : S52)] : List (S52))) := ⟨_, rfl⟩
         replace H : (some (([y285] : List (List (S52))))) = some r := by first | (rw [hy285]; with_reducible exact H) | (have H2_ := (Option.bind_some _ _).symm.trans H; rw [hy285]; with_reducible exact H2_) | (have H2_ := (Option.bind_some _ _).symm.trans H; with_reducible exact H2_) | with_reducible exact H | (rw [hy285]; exact H) | exact H
         have Ny285 := Aside0.mk hy285; clear hy285
         obtain ⟨y288, hy288⟩ : ∃ y_ : List (List (S52)), y_ = (([y285] : List (List (S52)))) := ⟨_, rfl⟩
         replace H : (some y288) = some r := by first | (rw [hy288]; with_reducible exact H) | (have H2_ := (Option.bind_some _ _).symm.trans H; rw [hy288]; with_reducible exact H2_) | (have H2_ := (Option.bind_some _ _).symm.trans H; with_reducible exact H2_) | with_reducible exact H | (rw [hy288]; exact H) | exact H
         have Ny288 := Aside0.mk hy288; clear hy288; obtain rfl := Option.some.inj H; have hnb56 := NB204_203.out; have hnc56 := NB203_204.out
         have hcz57 := fun i => blk_cell BK204.out i
         have hfz57 := fun i => blk_frozen BK204.out i
         try go_wp2
         have n0_ := Aside0.mk (blk_drew BK203.out); have n1_ := Aside0.mk (blk_drew BK204.out); have n2_ := Aside0.mk (below_drew1 HB.out); clear BK203; clear BK204; clear HB; have BK203 := n0_; have BK204 := n1_; have HB := n2_; clear n0_ n1_ n2_
         have p257 : 0 ≤ (0 : Int) := (by omega)
         have q257 : 0 < (l2.length : Int) := of_decide_eq_true (by first | (with_reducible assumption) | assumption)
         obtain ⟨ad257, e257, hx257_0⟩ := Kd.at_int HR2.out 0 p257 q257; have hw257_0 := hx257_0
         (try rw [show ((0 : Int)).toNat = 0 from rfl] at hw257_0)
         (try rw [show 0 * 1 = 0 from rfl] at hw257_0)
         (try rw [Addr.add_zero'] at hw257_0)
         cases e257
         have qi257 : (0 < l2.length) = True := eq_true (by omega)
         (try rw [show ((0 : Int)).toNat = 0 from rfl] at hx257_0)
         (try rw [Addr.add_zero'] at hx257_0)
         replace hx257_0 := (HB.out.cell (World.block_lt_of_cell? w _ hx257_0)).trans hx257_0; replace p257 := eq_true p257; replace q257 := eq_true q257
         have p263 : 0 ≤ (1 : Int) := (by omega)
         have q263 : 1 < (l2.length : Int) := of_decide_eq_true (by first | (with_reducible assumption) | assumption)
         obtain ⟨ad263, e263, hx263_0⟩ := Kd.at_int HR2.out 1 p263 q263; have hw263_0 := hx263_0
         (try rw [show ((1 : Int)).toNat = 1 from rfl] at hw263_0)
         (try rw [show 1 * 1 = 1 from rfl] at hw263_0)
         (try simp only [Nat.reduceMul, Nat.reduceEqDiff, Go.Addr.add, ↓reduceIte] at hw263_0)
         obtain rfl : ad257 = ad263 := (by injection e263)
         (try simp only [show (1 : Int).toNat = 1 from rfl, Nat.reduceMul, Nat.reduceEqDiff, Go.Addr.add, ↓reduceIte] at hx263_0)
         have qi263 : (1 < l2.length) = True := eq_true (by omega)
         (try rw [show ((1 : Int)).toNat = 1 from rfl] at hx263_0)
         replace hx263_0 := (HB.out.cell (World.block_lt_of_cell? w _ hx263_0)).trans hx263_0; replace p263 := eq_true p263; replace q263 := eq_true q263
         have p274 : 0 ≤ (2 : Int) := (by omega)
         have q274 : 2 < (l2.length : Int) := of_decide_eq_true (by first | (with_reducible assumption) | assumption)
         obtain ⟨ad274, e274, hx274_0⟩ := Kd.at_int HR2.out 2 p274 q274; have hw274_0 := hx274_0
         (try rw [show ((2 : Int)).toNat = 2 from rfl] at hw274_0)
         (try rw [show 2 * 1 = 2 from rfl] at hw274_0)
         (try simp only [Nat.reduceMul, Nat.reduceEqDiff, Go.Addr.add, ↓reduceIte] at hw274_0)
         obtain rfl : ad257 = ad274 := (by injection e274)
         (try simp only [show (2 : Int).toNat = 2 from rfl, Nat.reduceMul, Nat.reduceEqDiff, Go.Addr.add, ↓reduceIte] at hx274_0)
         have qi274 : (2 < l2.length) = True := eq_true (by omega)
         (try rw [show ((2 : Int)).toNat = 2 from rfl] at hx274_0)
         replace hx274_0 := (HB.out.cell (World.block_lt_of_cell? w _ hx274_0)).trans hx274_0; replace p274 := eq_true p274; replace q274 := eq_true q274
         refine start_ (n := 17) (S := fun w' => w'.cell? ad257 = some (.int .i64 (rd l2 0)) ∧ w'.cell? ⟨ad257.block, ad257.off + 1, none⟩ = some (.int .i64 (rd l2 1)) ∧ w'.cell? ⟨ad257.block, ad257.off + 2, none⟩ = some (.int .i64 (rd l2 2))) (ds := []) #[false, false, false, false, false, false, false, false, false, false, false, false, false, false, false, false, false] (by kernel_rfl) rfl rfl ⟨(clA HB.out hw257_0), (clA HB.out hw263_0), (clA HB.out hw274_0)⟩ (fun hHeld => ?_); refine with_tabW steepleref25_System_Laid.tab6 steepleref25_System_Laid.bits6 (fun HT_ HW_ => ?_)
         generalize wc.drew = w58 at BK203 BK204 HB hx257_0 hx263_0 hx274_0 hHeld ⊢
         refine pureA 0 (some 48) HT_.out ?_
         refine pureA 1 (some 49) HT_.out ?_
         refine pureA 4 (some 52) HT_.out ?_
         refine pureA 5 (some 53) HT_.out ?_
         refine pureA 9 (some 57) HT_.out ?_
         refine pureA 10 (some 58) HT_.out ?_
         refine takeA 2 (some 50) rfl HT_.out HW_.out hHeld (Or.inl ⟨by rfl, by rintro w' ⟨s0, s1, s2⟩; go_simp; with_reducible rfl⟩) ?_
         refine takeA 6 (some 54) rfl HT_.out HW_.out hHeld (Or.inl ⟨by rfl, by rintro w' ⟨s0, s1, s2⟩; go_simp; with_reducible rfl⟩) ?_
         refine takeA 11 (some 59) rfl HT_.out HW_.out hHeld (Or.inl ⟨by rfl, by rintro w' ⟨s0, s1, s2⟩; go_simp; with_reducible rfl⟩) ?_
         refine one_ (i := 3) (N := some 51) #[true, true, true, true, true, true, true, false, false, true, true, true, false, false, false, false, false] rfl rfl (one_of HT_.out (by kernel_rfl)) (by decide) (fun K hK => ?_)
         refine goes_ Try.func91 (by kernel_rfl) rfl #[.int .i64 (rd l2 0)] (by rfl) rfl rfl gsA ?_
         with_reducible refine (steepleref25_v.calls (rd l2 0) t258 t259 t260 t261 t262 _ A49.out).mono ?_
         rintro e w59 ⟨rfl, hb⟩
         refine ⟨_, rfl, ?_⟩
         have n0_ := Aside0.mk (blk_below (bkA BK203.out) hb); have n1_ := Aside0.mk (blk_below (bkA BK204.out) hb); have n2_ := Aside0.mk (below_step (blA HB.out) hb); clear BK203; clear BK204; clear HB; have BK203 := n0_; have BK204 := n1_; have HB := n2_; clear n0_ n1_ n2_
         (try clear hb)
         refine hK.out _ _ ⟨(clA HB.out hw257_0), (clA HB.out hw263_0), (clA HB.out hw274_0)⟩ (fun hHeld => ?_)
         clear hK K
         refine normA ?_
         refine one_ (i := 7) (N := some 55) #[true, true, true, true, true, true, true, true, false, true, true, true, false, false, false, false, false] rfl rfl (one_of HT_.out (by kernel_rfl)) (by decide) (fun K hK => ?_)
         refine goes_ Try.func91 (by kernel_rfl) rfl #[.int .i64 (rd l2 1)] (by rfl) rfl rfl gsA ?_
         with_reducible refine (steepleref25_v.calls (rd l2 1) t264 t265 t266 t267 t268 _ A51.out).mono ?_
         rintro e w60 ⟨rfl, hb⟩
         refine ⟨_, rfl, ?_⟩
         have n0_ := Aside0.mk (blk_below (bkA BK203.out) hb); have n1_ := Aside0.mk (blk_below (bkA BK204.out) hb); have n2_ := Aside0.mk (below_step (blA HB.out) hb); clear BK203; clear BK204; clear HB; have BK203 := n0_; have BK204 := n1_; have HB := n2_; clear n0_ n1_ n2_
         (try clear hb)
         refine hK.out _ _ ⟨(clA HB.out hw257_0), (clA HB.out hw263_0), (clA HB.out hw274_0)⟩ (fun hHeld => ?_)
         clear hK K
         refine normA ?_
         refine one_ (i := 8) (N := some 56) #[true, true, true, true, true, true, true, true, true, true, true, true, false, false, false, false, false] rfl rfl (one_of HT_.out (by kernel_rfl)) (by decide) (fun K hK => ?_)
         refine goes_ Try.func92 (by kernel_rfl) rfl #[.int .i64 0, .int .i64 1] (by rfl) rfl rfl gsA ?_
         with_reducible refine (steepleref25_plus.calls 0 1 t269 t270 t271 t272 t273 _ A52.out).mono ?_
         rintro e w61 ⟨rfl, hb⟩
         refine ⟨_, rfl, ?_⟩
         have n0_ := Aside0.mk (blk_below (bkA BK203.out) hb); have n1_ := Aside0.mk (blk_below (bkA BK204.out) hb); have n2_ := Aside0.mk (below_step (blA HB.out) hb); clear BK203; clear BK204; clear HB; have BK203 := n0_; have BK204 := n1_; have HB := n2_; clear n0_ n1_ n2_
         (try clear hb)
         refine hK.out _ _ ⟨(clA HB.out hw257_0), (clA HB.out hw263_0), (clA HB.out hw274_0)⟩ (fun hHeld => ?_)
         clear hK K
         refine normA ?_
         refine one_ (i := 12) (N := some 60) #[true, true, true, true, true, true, true, true, true, true, true, true, true, false, false, false, false] rfl rfl (one_of HT_.out (by kernel_rfl)) (by decide) (fun K hK => ?_)
         refine goes_ Try.func91 (by kernel_rfl) rfl #[.int .i64 (rd l2 2)] (by rfl) rfl rfl gsA ?_
         with_reducible refine (steepleref25_v.calls (rd l2 2) t275 t276 t277 t278 t279 _ A54.out).mono ?_
         rintro e w62 ⟨rfl, hb⟩
         refine ⟨_, rfl, ?_⟩
         have n0_ := Aside0.mk (blk_below (bkA BK203.out) hb); have n1_ := Aside0.mk (blk_below (bkA BK204.out) hb); have n2_ := Aside0.mk (below_step (blA HB.out) hb); clear BK203; clear BK204; clear HB; have BK203 := n0_; have BK204 := n1_; have HB := n2_; clear n0_ n1_ n2_
         (try clear hb)
         refine hK.out _ _ ⟨(clA HB.out hw257_0), (clA HB.out hw263_0), (clA HB.out hw274_0)⟩ (fun hHeld => ?_)
         clear hK K
         refine normA ?_
         refine one_ (i := 13) (N := some 61) #[true, true, true, true, true, true, true, true, true, true, true, true, true, true, false, false, false] rfl rfl (one_of HT_.out (by kernel_rfl)) (by decide) (fun K hK => ?_)
         refine goes_ Try.func92 (by kernel_rfl) rfl #[.int .i64 2, .int .i64 3] (by rfl) rfl rfl gsA ?_
         with_reducible refine (steepleref25_plus.calls 2 3 t280 t281 t282 t283 t284 _ A55.out).mono ?_
         rintro e w63 ⟨rfl, hb⟩
         refine ⟨_, rfl, ?_⟩
         have n0_ := Aside0.mk (blk_below (bkA BK203.out) hb); have n1_ := Aside0.mk (blk_below (bkA BK204.out) hb); have n2_ := Aside0.mk (below_step (blA HB.out) hb); clear BK203; clear BK204; clear HB; have BK203 := n0_; have BK204 := n1_; have HB := n2_; clear n0_ n1_ n2_
         (try clear hb)
         refine hK.out _ _ ⟨(clA HB.out hw257_0), (clA HB.out hw263_0), (clA HB.out hw274_0)⟩ (fun hHeld => ?_)
         clear hK K
         refine normA ?_
         refine one_ (i := 14) (N := some 62) #[true, true, true, true, true, true, true, true, true, true, true, true, true, true, true, false, false] rfl rfl (one_of HT_.out (by kernel_rfl)) (by decide) (fun K hK => ?_)
         refine Kd.R_lit_step k52 _ 52 ?hg (N := 62) ?hd (xs := ([(⟨t258, t259, t260, (⟨t261, t262⟩ : S45)⟩ : S52), (⟨t264, t265, t266, (⟨t267, t268⟩ : S45)⟩ : S52), (⟨t269, t270, t271, (⟨t272, t273⟩ : S45)⟩ : S52), (⟨t275, t276, t277, (⟨t278, t279⟩ : S45)⟩ : S52), (⟨t280, t281, t282, (⟨t283, t284⟩ : S45)⟩ : S52)] : List (S52))) (inner := [.int .i64 t258, .int .i64 t259, .int .i64 t260, .int .u64 t261, .int .u64 t262, .int .i64 t264, .int .i64 t265, .int .i64 t266, .int .u64 t267, .int .u64 t268, .int .i64 t269, .int .i64 t270, .int .i64 t271, .int .u64 t272, .int .u64 t273, .int .i64 t275, .int .i64 t276, .int .i64 t277, .int .u64 t278, .int .u64 t279, .int .i64 t280, .int .i64 t281, .int .i64 t282, .int .u64 t283, .int .u64 t284]) (ok := fun _ => True) (okp := fun _ => True) ?hr ?hp (fun _ hk => hk) trivial (Below.refl _ _) (Nat.le_refl _) (by simp) ?_; (case hd => rfl); (case hg => rfl); (case hr => first | (go_simp; done) | (go_simp; rfl)); (case hp => exact (Reps.c5 (show Kd.M k52 _ _ _ (⟨t258, t259, t260, (⟨t261, t262⟩ : S45)⟩ : S52) [.int .i64 t258, .int .i64 t259, .int .i64 t260, .int .u64 t261, .int .u64 t262] from (k52_mkM _ _ _ (⟨t258, t259, t260, (⟨t261, t262⟩ : S45)⟩ : S52) )) (Reps.c5 (show Kd.M k52 _ _ _ (⟨t264, t265, t266, (⟨t267, t268⟩ : S45)⟩ : S52) [.int .i64 t264, .int .i64 t265, .int .i64 t266, .int .u64 t267, .int .u64 t268] from (k52_mkM _ _ _ (⟨t264, t265, t266, (⟨t267, t268⟩ : S45)⟩ : S52) )) (Reps.c5 (show Kd.M k52 _ _ _ (⟨t269, t270, t271, (⟨t272, t273⟩ : S45)⟩ : S52) [.int .i64 t269, .int .i64 t270, .int .i64 t271, .int .u64 t272, .int .u64 t273] from (k52_mkM _ _ _ (⟨t269, t270, t271, (⟨t272, t273⟩ : S45)⟩ : S52) )) (Reps.c5 (show Kd.M k52 _ _ _ (⟨t275, t276, t277, (⟨t278, t279⟩ : S45)⟩ : S52) [.int .i64 t275, .int .i64 t276, .int .i64 t277, .int .u64 t278, .int .u64 t279] from (k52_mkM _ _ _ (⟨t275, t276, t277, (⟨t278, t279⟩ : S45)⟩ : S52) )) (Reps.c5 (show Kd.M k52 _ _ _ (⟨t280, t281, t282, (⟨t283, t284⟩ : S45)⟩ : S52) [.int .i64 t280, .int .i64 t281, .int .i64 t282, .int .u64 t283, .int .u64 t284] from (k52_mkM _ _ _ (⟨t280, t281, t282, (⟨t283, t284⟩ : S45)⟩ : S52) )) (Reps.none _ _)))))))
         intro v286 w64 ho65 hb hg_ hnew_
         clear hg_ hnew_
         (first | rw [← Ny285.out] at ho65 | (simp only [Int.reduceToNat] at ho65; rw [← Ny285.out] at ho65))
         have n0_ := Aside0.mk (Kd.R_lower (Kd.R_newM (M := fun k_ => (w.heap.size ≤ k_)) ho65 (below_size (blA HB.out)) (fun k_ h_ => h_)) (below_size (blA HB.out)))
         have n1_ := Aside0.mk (blk_below (bkA BK203.out) hb); have n2_ := Aside0.mk (blk_below (bkA BK204.out) hb); have n3_ := Aside0.mk (below_step (blA HB.out) hb); clear BK203; clear BK204; clear HB; have HO287 := n0_; have BK203 := n1_; have BK204 := n2_; have HB := n3_; clear n0_ n1_ n2_ n3_; clear hb ho65; obtain ⟨Ao66, co66, eo66⟩ := Kd.R_slice HO287.out
         (first | subst eo66 | (injection eo66 with f1_ f2_ f3_; have f4_ := f1_.symm; have f5_ := f3_.symm; clear f1_ f2_ f3_; subst f4_; subst f5_))
         refine hK.out _ _ ⟨(clA HB.out hw257_0), (clA HB.out hw263_0), (clA HB.out hw274_0)⟩ (fun hHeld => ?_)
         clear hK K
         refine normA ?_
         refine one_ (i := 15) (N := some 63) #[true, true, true, true, true, true, true, true, true, true, true, true, true, true, true, true, false] rfl rfl (one_of HT_.out (by kernel_rfl)) (by decide) (fun K hK => ?_)
         refine Kd.N_lit_step (Kd.slice 52 k52) _ 48 ?hg (N' := 63) ?hd (xs := ([y285] : List (List (S52)))) (inner := [.slice Ao66 y285.length co66]) (ok := (fun k_ => (w.heap.size ≤ k_) ∧ k_ ≠ gb203 ∧ k_ ≠ gb204)) (okp := (fun k_ => (w.heap.size ≤ k_) ∧ k_ ≠ gb203 ∧ k_ ≠ gb204)) ?hr ?hp (fun _ hk => hk) ((show ∀ k_, w64.heap.size ≤ k_ → (fun k_ => (w.heap.size ≤ k_) ∧ k_ ≠ gb203 ∧ k_ ≠ gb204) k_ from fun k_ hk => ⟨(Nat.le_trans (below_size (blA HB.out)) hk), Kd.freshB (bkA BK203.out) k_ hk, Kd.freshB (bkA BK204.out) k_ hk⟩) _ (Nat.le_refl _)) (Below.refl _ _) (Nat.le_refl _) (by simp) ?_; (case hd => rfl); (case hg => rfl); (case hr => first | (go_simp; done) | (go_simp; rfl)); (case hp => exact (Reps.one (show Kd.FK (Kd.slice 52 k52) _ _ y285 [.slice Ao66 y285.length co66] from (Kd.FK_slice_mk (Kd.R_reads' (Kd.R_mono (ok' := (fun k_ => (w.heap.size ≤ k_) ∧ k_ ≠ gb203 ∧ k_ ≠ gb204)) (Kd.R_types (Kd.R_types (HO287.out) BK203.out (by decide)) BK204.out (by decide)) (fun k_ hk => by first | exact ⟨hk.1.1.1, ⟨hk.1.2, hk.2⟩⟩ | exact ⟨hk.1.1, ⟨hk.1.2, hk.2⟩⟩))).2.1 (Kd.R_F (Kd.R_mono (ok' := (fun k_ => (w.heap.size ≤ k_) ∧ k_ ≠ gb203 ∧ k_ ≠ gb204)) (Kd.R_types (Kd.R_types (HO287.out) BK203.out (by decide)) BK204.out (by decide)) (fun k_ hk => by first | exact ⟨hk.1.1.1, ⟨hk.1.2, hk.2⟩⟩ | exact ⟨hk.1.1, ⟨hk.1.2, hk.2⟩⟩))))) (Reps.none _ _)))
         intro v289 w67 ho68 hb hg_ hnew_
         clear hg_ hnew_
         (first | rw [← Ny288.out] at ho68 | (simp only [Int.reduceToNat] at ho68; rw [← Ny288.out] at ho68))
         have n0_ := Aside0.mk (Kd.N_lower ho68 (below_size (blA HB.out))); have n1_ := Aside0.mk (blk_below (bkA BK203.out) hb); have n2_ := Aside0.mk (blk_below (bkA BK204.out) hb); have n3_ := Aside0.mk (below_step (blA HB.out) hb); clear BK203; clear BK204; clear HB; clear HO287; have HO290 := n0_; have BK203 := n1_; have BK204 := n2_; have HB := n3_; clear n0_ n1_ n2_ n3_; clear hb ho68
         refine hK.out _ _ ⟨(clA HB.out hw257_0), (clA HB.out hw263_0), (clA HB.out hw274_0)⟩ (fun hHeld => ?_)
         clear hK K
         refine normA ?_
         refine pureA 16 (some 6) HT_.out ?_
         refine done_ (done_of HT_.out (by kernel_rfl)) ?_
         try go_wp2
         go_ret
         exact ⟨_, by first | rfl | (simp [errW_none, errW_some] <;> rfl) | (simp [*, errW_none, errW_some] <;> rfl), by (with_reducible repeat (first | apply Kd.N_alloc | apply Kd.N_drewN | apply Kd.N_drew)); exact Kd.N_mono HO290.out (fun _ hk => hk.1), blA HB.out⟩
        ·rw [if_neg c53] at H
         exact absurd H (by simp)
       ·rw [if_neg c50] at H
        exact absurd H (by simp)
      ·rw [if_neg c48] at H
       exact absurd H (by simp)
     ·rw [if_neg c47] at H
      have c47b0 : (a1_0 == 1) = false := beq_eq_false_iff_ne.mpr c47; have c47b1 : (a1_0 != 1) = true := bne_iff_ne.mpr c47
      by_cases c69 : a1_0 = 2
      ·rw [if_pos c69] at H
       have c69b0 : (a1_0 == 2) = true := beq_iff_eq.mpr c69; have c69b1 : (a1_0 != 2) = false := bne_eq_false_iff_eq.mpr c69; clear c69
       by_cases c70 : 0 < (l2.length : Int)
       ·rw [if_pos c70] at H
        have c70b0 : decide (0 < (l2.length : Int)) = true := decide_eq_true c70
        have c70b1 : decide (0 < l2.length) = true := decide_eq_true (by omega)
        clear c70; replace H := Option.bind_eq_some_iff.mp H
        obtain ⟨⟨t292, t293, t294, t295, t296⟩, A710, H⟩ := H
        (try dsimp only at H)
        have A71 := Aside0.mk A710; clear A710
        by_cases c72 : 1 < (l2.length : Int)
        ·rw [if_pos c72] at H
         have c72b0 : decide (1 < (l2.length : Int)) = true := decide_eq_true c72
         have c72b1 : decide (1 < l2.length) = true := decide_eq_true (by omega)
         clear c72; replace H := Option.bind_eq_some_iff.mp H
         obtain ⟨⟨t298, t299, t300, t301, t302⟩, A730, H⟩ := H
         (try dsimp only at H)
         have A73 := Aside0.mk A730; clear A730
         by_cases c74 : 2 < (l2.length : Int)
         ·rw [if_pos c74] at H
          have c74b0 : decide (2 < (l2.length : Int)) = true := decide_eq_true c74
          have c74b1 : decide (2 < l2.length) = true := decide_eq_true (by omega)
          clear c74; replace H := Option.bind_eq_some_iff.mp H
          obtain ⟨⟨t304, t305, t306, t307, t308⟩, A750, H⟩ := H
          (try dsimp only at H)
          have A75 := Aside0.mk A750; clear A750; replace H := Option.bind_eq_some_iff.mp H
          obtain ⟨⟨t309, t310, t311, t312, t313⟩, A760, H⟩ := H
          (try dsimp only at H)
          have A76 := Aside0.mk A760; clear A760; replace H := Option.bind_eq_some_iff.mp H
          obtain ⟨⟨t314, t315, t316, t317, t318⟩, A770, H⟩ := H
          (try dsimp only at H); have A77 := Aside0.mk A770; clear A770
          obtain ⟨y319, hy319⟩ : ∃ y_ : List (S52), y_ = (([(⟨t292, t293, t294, (⟨t295, t296⟩ : S45)⟩ : S52), (⟨t298, t299, t300, (⟨t301, t302⟩ : S45)⟩ : S52), (⟨t304, t305, t306, (⟨t307, t308⟩ : S45)⟩ : S52), (⟨t309, t310, t311, (⟨t312, t313⟩ : S45)⟩ : S52), (⟨t314, t315, t316, (⟨t317, t318⟩ : S45)⟩ : S52)] : List (S52))) := ⟨_, rfl⟩
          replace H : (some (([y319] : List (List (S52))))) = some r := by first | (rw [hy319]; with_reducible exact H) | (have H2_ := (Option.bind_some _ _).symm.trans H; rw [hy319]; with_reducible exact H2_) | (have H2_ := (Option.bind_some _ _).symm.trans H; with_reducible exact H2_) | with_reducible exact H | (rw [hy319]; exact H) | exact H
          have Ny319 := Aside0.mk hy319; clear hy319
          obtain ⟨y322, hy322⟩ : ∃ y_ : List (List (S52)), y_ = (([y319] : List (List (S52)))) := ⟨_, rfl⟩
          replace H : (some y322) = some r := by first | (rw [hy322]; with_reducible exact H) | (have H2_ := (Option.bind_some _ _).symm.trans H; rw [hy322]; with_reducible exact H2_) | (have H2_ := (Option.bind_some _ _).symm.trans H; with_reducible exact H2_) | with_reducible exact H | (rw [hy322]; exact H) | exact H
          have Ny322 := Aside0.mk hy322; clear hy322; obtain rfl := Option.some.inj H; have hnb78 := NB204_203.out; have hnc78 := NB203_204.out
          have hcz79 := fun i => blk_cell BK204.out i
          have hfz79 := fun i => blk_frozen BK204.out i
          try go_wp2
          have n0_ := Aside0.mk (blk_drew BK203.out); have n1_ := Aside0.mk (blk_drew BK204.out); have n2_ := Aside0.mk (below_drew1 HB.out); clear BK203; clear BK204; clear HB; have BK203 := n0_; have BK204 := n1_; have HB := n2_; clear n0_ n1_ n2_
          have p291 : 0 ≤ (0 : Int) := (by omega)
          have q291 : 0 < (l2.length : Int) := of_decide_eq_true (by first | (with_reducible assumption) | assumption)
          obtain ⟨ad291, e291, hx291_0⟩ := Kd.at_int HR2.out 0 p291 q291; have hw291_0 := hx291_0
          (try rw [show ((0 : Int)).toNat = 0 from rfl] at hw291_0)
          (try rw [show 0 * 1 = 0 from rfl] at hw291_0)
          (try rw [Addr.add_zero'] at hw291_0)
          cases e291
          have qi291 : (0 < l2.length) = True := eq_true (by omega)
          (try rw [show ((0 : Int)).toNat = 0 from rfl] at hx291_0)
          (try rw [Addr.add_zero'] at hx291_0)
          replace hx291_0 := (HB.out.cell (World.block_lt_of_cell? w _ hx291_0)).trans hx291_0; replace p291 := eq_true p291; replace q291 := eq_true q291
          have p297 : 0 ≤ (1 : Int) := (by omega)
          have q297 : 1 < (l2.length : Int) := of_decide_eq_true (by first | (with_reducible assumption) | assumption)
          obtain ⟨ad297, e297, hx297_0⟩ := Kd.at_int HR2.out 1 p297 q297; have hw297_0 := hx297_0
          (try rw [show ((1 : Int)).toNat = 1 from rfl] at hw297_0)
          (try rw [show 1 * 1 = 1 from rfl] at hw297_0)
          (try simp only [Nat.reduceMul, Nat.reduceEqDiff, Go.Addr.add, ↓reduceIte] at hw297_0)
          obtain rfl : ad291 = ad297 := (by injection e297)
          (try simp only [show (1 : Int).toNat = 1 from rfl, Nat.reduceMul, Nat.reduceEqDiff, Go.Addr.add, ↓reduceIte] at hx297_0)
          have qi297 : (1 < l2.length) = True := eq_true (by omega)
          (try rw [show ((1 : Int)).toNat = 1 from rfl] at hx297_0)
          replace hx297_0 := (HB.out.cell (World.block_lt_of_cell? w _ hx297_0)).trans hx297_0; replace p297 := eq_true p297; replace q297 := eq_true q297
          have p303 : 0 ≤ (2 : Int) := (by omega)
          have q303 : 2 < (l2.length : Int) := of_decide_eq_true (by first | (with_reducible assumption) | assumption)
          obtain ⟨ad303, e303, hx303_0⟩ := Kd.at_int HR2.out 2 p303 q303; have hw303_0 := hx303_0
          (try rw [show ((2 : Int)).toNat = 2 from rfl] at hw303_0)
          (try rw [show 2 * 1 = 2 from rfl] at hw303_0)
          (try simp only [Nat.reduceMul, Nat.reduceEqDiff, Go.Addr.add, ↓reduceIte] at hw303_0)
          obtain rfl : ad291 = ad303 := (by injection e303)
          (try simp only [show (2 : Int).toNat = 2 from rfl, Nat.reduceMul, Nat.reduceEqDiff, Go.Addr.add, ↓reduceIte] at hx303_0)
          have qi303 : (2 < l2.length) = True := eq_true (by omega)
          (try rw [show ((2 : Int)).toNat = 2 from rfl] at hx303_0)
          replace hx303_0 := (HB.out.cell (World.block_lt_of_cell? w _ hx303_0)).trans hx303_0; replace p303 := eq_true p303; replace q303 := eq_true q303
          refine start_ (n := 17) (S := fun w' => w'.cell? ad291 = some (.int .i64 (rd l2 0)) ∧ w'.cell? ⟨ad291.block, ad291.off + 1, none⟩ = some (.int .i64 (rd l2 1)) ∧ w'.cell? ⟨ad291.block, ad291.off + 2, none⟩ = some (.int .i64 (rd l2 2))) (ds := []) #[false, false, false, false, false, false, false, false, false, false, false, false, false, false, false, false, false] (by kernel_rfl) rfl rfl ⟨(clA HB.out hw291_0), (clA HB.out hw297_0), (clA HB.out hw303_0)⟩ (fun hHeld => ?_); refine with_tabW steepleref25_System_Laid.tab8 steepleref25_System_Laid.bits8 (fun HT_ HW_ => ?_)
          generalize wc.drew = w80 at BK203 BK204 HB hx291_0 hx297_0 hx303_0 hHeld ⊢
          refine pureA 0 (some 67) HT_.out ?_
          refine pureA 1 (some 68) HT_.out ?_
          refine pureA 4 (some 71) HT_.out ?_
          refine pureA 5 (some 72) HT_.out ?_
          refine pureA 8 (some 75) HT_.out ?_
          refine pureA 9 (some 76) HT_.out ?_
          refine takeA 2 (some 69) rfl HT_.out HW_.out hHeld (Or.inl ⟨by rfl, by rintro w' ⟨s0, s1, s2⟩; go_simp; with_reducible rfl⟩) ?_
          refine takeA 6 (some 73) rfl HT_.out HW_.out hHeld (Or.inl ⟨by rfl, by rintro w' ⟨s0, s1, s2⟩; go_simp; with_reducible rfl⟩) ?_
          refine takeA 10 (some 77) rfl HT_.out HW_.out hHeld (Or.inl ⟨by rfl, by rintro w' ⟨s0, s1, s2⟩; go_simp; with_reducible rfl⟩) ?_
          refine one_ (i := 3) (N := some 70) #[true, true, true, true, true, true, true, false, true, true, true, false, false, false, false, false, false] rfl rfl (one_of HT_.out (by kernel_rfl)) (by decide) (fun K hK => ?_)
          refine goes_ Try.func91 (by kernel_rfl) rfl #[.int .i64 (rd l2 0)] (by rfl) rfl rfl gsA ?_
          with_reducible refine (steepleref25_v.calls (rd l2 0) t292 t293 t294 t295 t296 _ A71.out).mono ?_
          rintro e w81 ⟨rfl, hb⟩
          refine ⟨_, rfl, ?_⟩
          have n0_ := Aside0.mk (blk_below (bkA BK203.out) hb); have n1_ := Aside0.mk (blk_below (bkA BK204.out) hb); have n2_ := Aside0.mk (below_step (blA HB.out) hb); clear BK203; clear BK204; clear HB; have BK203 := n0_; have BK204 := n1_; have HB := n2_; clear n0_ n1_ n2_
          (try clear hb)
          refine hK.out _ _ ⟨(clA HB.out hw291_0), (clA HB.out hw297_0), (clA HB.out hw303_0)⟩ (fun hHeld => ?_)
          clear hK K
          refine normA ?_
          refine one_ (i := 7) (N := some 74) #[true, true, true, true, true, true, true, true, true, true, true, false, false, false, false, false, false] rfl rfl (one_of HT_.out (by kernel_rfl)) (by decide) (fun K hK => ?_)
          refine goes_ Try.func91 (by kernel_rfl) rfl #[.int .i64 (rd l2 1)] (by rfl) rfl rfl gsA ?_
          with_reducible refine (steepleref25_v.calls (rd l2 1) t298 t299 t300 t301 t302 _ A73.out).mono ?_
          rintro e w82 ⟨rfl, hb⟩
          refine ⟨_, rfl, ?_⟩
          have n0_ := Aside0.mk (blk_below (bkA BK203.out) hb); have n1_ := Aside0.mk (blk_below (bkA BK204.out) hb); have n2_ := Aside0.mk (below_step (blA HB.out) hb); clear BK203; clear BK204; clear HB; have BK203 := n0_; have BK204 := n1_; have HB := n2_; clear n0_ n1_ n2_
          (try clear hb)
          refine hK.out _ _ ⟨(clA HB.out hw291_0), (clA HB.out hw297_0), (clA HB.out hw303_0)⟩ (fun hHeld => ?_)
          clear hK K
          refine normA ?_
          refine one_ (i := 11) (N := some 78) #[true, true, true, true, true, true, true, true, true, true, true, true, false, false, false, false, false] rfl rfl (one_of HT_.out (by kernel_rfl)) (by decide) (fun K hK => ?_)
          refine goes_ Try.func91 (by kernel_rfl) rfl #[.int .i64 (rd l2 2)] (by rfl) rfl rfl gsA ?_
          with_reducible refine (steepleref25_v.calls (rd l2 2) t304 t305 t306 t307 t308 _ A75.out).mono ?_
          rintro e w83 ⟨rfl, hb⟩
          refine ⟨_, rfl, ?_⟩
          have n0_ := Aside0.mk (blk_below (bkA BK203.out) hb); have n1_ := Aside0.mk (blk_below (bkA BK204.out) hb); have n2_ := Aside0.mk (below_step (blA HB.out) hb); clear BK203; clear BK204; clear HB; have BK203 := n0_; have BK204 := n1_; have HB := n2_; clear n0_ n1_ n2_
          (try clear hb)
          refine hK.out _ _ ⟨(clA HB.out hw291_0), (clA HB.out hw297_0), (clA HB.out hw303_0)⟩ (fun hHeld => ?_)
          clear hK K
          refine normA ?_
          refine one_ (i := 12) (N := some 79) #[true, true, true, true, true, true, true, true, true, true, true, true, true, false, false, false, false] rfl rfl (one_of HT_.out (by kernel_rfl)) (by decide) (fun K hK => ?_)
          refine goes_ Try.func93 (by kernel_rfl) rfl #[.int .i64 1, .int .i64 2] (by rfl) rfl rfl gsA ?_
          with_reducible refine (steepleref25_times.calls 1 2 t309 t310 t311 t312 t313 _ A76.out).mono ?_
          rintro e w84 ⟨rfl, hb⟩
          refine ⟨_, rfl, ?_⟩
          have n0_ := Aside0.mk (blk_below (bkA BK203.out) hb); have n1_ := Aside0.mk (blk_below (bkA BK204.out) hb); have n2_ := Aside0.mk (below_step (blA HB.out) hb); clear BK203; clear BK204; clear HB; have BK203 := n0_; have BK204 := n1_; have HB := n2_; clear n0_ n1_ n2_
          (try clear hb)
          refine hK.out _ _ ⟨(clA HB.out hw291_0), (clA HB.out hw297_0), (clA HB.out hw303_0)⟩ (fun hHeld => ?_)
          clear hK K
          refine normA ?_
          refine one_ (i := 13) (N := some 80) #[true, true, true, true, true, true, true, true, true, true, true, true, true, true, false, false, false] rfl rfl (one_of HT_.out (by kernel_rfl)) (by decide) (fun K hK => ?_)
          refine goes_ Try.func92 (by kernel_rfl) rfl #[.int .i64 0, .int .i64 3] (by rfl) rfl rfl gsA ?_
          with_reducible refine (steepleref25_plus.calls 0 3 t314 t315 t316 t317 t318 _ A77.out).mono ?_
          rintro e w85 ⟨rfl, hb⟩
          refine ⟨_, rfl, ?_⟩
          have n0_ := Aside0.mk (blk_below (bkA BK203.out) hb); have n1_ := Aside0.mk (blk_below (bkA BK204.out) hb); have n2_ := Aside0.mk (below_step (blA HB.out) hb); clear BK203; clear BK204; clear HB; have BK203 := n0_; have BK204 := n1_; have HB := n2_; clear n0_ n1_ n2_
          (try clear hb)
          refine hK.out _ _ ⟨(clA HB.out hw291_0), (clA HB.out hw297_0), (clA HB.out hw303_0)⟩ (fun hHeld => ?_)
          clear hK K
          refine normA ?_
          refine one_ (i := 14) (N := some 81) #[true, true, true, true, true, true, true, true, true, true, true, true, true, true, true, false, false] rfl rfl (one_of HT_.out (by kernel_rfl)) (by decide) (fun K hK => ?_)
          refine Kd.R_lit_step k52 _ 52 ?hg (N := 81) ?hd (xs := ([(⟨t292, t293, t294, (⟨t295, t296⟩ : S45)⟩ : S52), (⟨t298, t299, t300, (⟨t301, t302⟩ : S45)⟩ : S52), (⟨t304, t305, t306, (⟨t307, t308⟩ : S45)⟩ : S52), (⟨t309, t310, t311, (⟨t312, t313⟩ : S45)⟩ : S52), (⟨t314, t315, t316, (⟨t317, t318⟩ : S45)⟩ : S52)] : List (S52))) (inner := [.int .i64 t292, .int .i64 t293, .int .i64 t294, .int .u64 t295, .int .u64 t296, .int .i64 t298, .int .i64 t299, .int .i64 t300, .int .u64 t301, .int .u64 t302, .int .i64 t304, .int .i64 t305, .int .i64 t306, .int .u64 t307, .int .u64 t308, .int .i64 t309, .int .i64 t310, .int .i64 t311, .int .u64 t312, .int .u64 t313, .int .i64 t314, .int .i64 t315, .int .i64 t316, .int .u64 t317, .int .u64 t318]) (ok := fun _ => True) (okp := fun _ => True) ?hr ?hp (fun _ hk => hk) trivial (Below.refl _ _) (Nat.le_refl _) (by simp) ?_; (case hd => rfl); (case hg => rfl); (case hr => first | (go_simp; done) | (go_simp; rfl)); (case hp => exact (Reps.c5 (show Kd.M k52 _ _ _ (⟨t292, t293, t294, (⟨t295, t296⟩ : S45)⟩ : S52) [.int .i64 t292, .int .i64 t293, .int .i64 t294, .int .u64 t295, .int .u64 t296] from (k52_mkM _ _ _ (⟨t292, t293, t294, (⟨t295, t296⟩ : S45)⟩ : S52) )) (Reps.c5 (show Kd.M k52 _ _ _ (⟨t298, t299, t300, (⟨t301, t302⟩ : S45)⟩ : S52) [.int .i64 t298, .int .i64 t299, .int .i64 t300, .int .u64 t301, .int .u64 t302] from (k52_mkM _ _ _ (⟨t298, t299, t300, (⟨t301, t302⟩ : S45)⟩ : S52) )) (Reps.c5 (show Kd.M k52 _ _ _ (⟨t304, t305, t306, (⟨t307, t308⟩ : S45)⟩ : S52) [.int .i64 t304, .int .i64 t305, .int .i64 t306, .int .u64 t307, .int .u64 t308] from (k52_mkM _ _ _ (⟨t304, t305, t306, (⟨t307, t308⟩ : S45)⟩ : S52) )) (Reps.c5 (show Kd.M k52 _ _ _ (⟨t309, t310, t311, (⟨t312, t313⟩ : S45)⟩ : S52) [.int .i64 t309, .int .i64 t310, .int .i64 t311, .int .u64 t312, .int .u64 t313] from (k52_mkM _ _ _ (⟨t309, t310, t311, (⟨t312, t313⟩ : S45)⟩ : S52) )) (Reps.c5 (show Kd.M k52 _ _ _ (⟨t314, t315, t316, (⟨t317, t318⟩ : S45)⟩ : S52) [.int .i64 t314, .int .i64 t315, .int .i64 t316, .int .u64 t317, .int .u64 t318] from (k52_mkM _ _ _ (⟨t314, t315, t316, (⟨t317, t318⟩ : S45)⟩ : S52) )) (Reps.none _ _)))))))
          intro v320 w86 ho87 hb hg_ hnew_
          clear hg_ hnew_
          (first | rw [← Ny319.out] at ho87 | (simp only [Int.reduceToNat] at ho87; rw [← Ny319.out] at ho87))
          have n0_ := Aside0.mk (Kd.R_lower (Kd.R_newM (M := fun k_ => (w.heap.size ≤ k_)) ho87 (below_size (blA HB.out)) (fun k_ h_ => h_)) (below_size (blA HB.out)))
          have n1_ := Aside0.mk (blk_below (bkA BK203.out) hb); have n2_ := Aside0.mk (blk_below (bkA BK204.out) hb); have n3_ := Aside0.mk (below_step (blA HB.out) hb); clear BK203; clear BK204; clear HB; have HO321 := n0_; have BK203 := n1_; have BK204 := n2_; have HB := n3_; clear n0_ n1_ n2_ n3_; clear hb ho87; obtain ⟨Ao88, co88, eo88⟩ := Kd.R_slice HO321.out
          (first | subst eo88 | (injection eo88 with f1_ f2_ f3_; have f4_ := f1_.symm; have f5_ := f3_.symm; clear f1_ f2_ f3_; subst f4_; subst f5_))
          refine hK.out _ _ ⟨(clA HB.out hw291_0), (clA HB.out hw297_0), (clA HB.out hw303_0)⟩ (fun hHeld => ?_)
          clear hK K
          refine normA ?_
          refine one_ (i := 15) (N := some 82) #[true, true, true, true, true, true, true, true, true, true, true, true, true, true, true, true, false] rfl rfl (one_of HT_.out (by kernel_rfl)) (by decide) (fun K hK => ?_)
          refine Kd.N_lit_step (Kd.slice 52 k52) _ 48 ?hg (N' := 82) ?hd (xs := ([y319] : List (List (S52)))) (inner := [.slice Ao88 y319.length co88]) (ok := (fun k_ => (w.heap.size ≤ k_) ∧ k_ ≠ gb203 ∧ k_ ≠ gb204)) (okp := (fun k_ => (w.heap.size ≤ k_) ∧ k_ ≠ gb203 ∧ k_ ≠ gb204)) ?hr ?hp (fun _ hk => hk) ((show ∀ k_, w86.heap.size ≤ k_ → (fun k_ => (w.heap.size ≤ k_) ∧ k_ ≠ gb203 ∧ k_ ≠ gb204) k_ from fun k_ hk => ⟨(Nat.le_trans (below_size (blA HB.out)) hk), Kd.freshB (bkA BK203.out) k_ hk, Kd.freshB (bkA BK204.out) k_ hk⟩) _ (Nat.le_refl _)) (Below.refl _ _) (Nat.le_refl _) (by simp) ?_; (case hd => rfl); (case hg => rfl); (case hr => first | (go_simp; done) | (go_simp; rfl)); (case hp => exact (Reps.one (show Kd.FK (Kd.slice 52 k52) _ _ y319 [.slice Ao88 y319.length co88] from (Kd.FK_slice_mk (Kd.R_reads' (Kd.R_mono (ok' := (fun k_ => (w.heap.size ≤ k_) ∧ k_ ≠ gb203 ∧ k_ ≠ gb204)) (Kd.R_types (Kd.R_types (HO321.out) BK203.out (by decide)) BK204.out (by decide)) (fun k_ hk => by first | exact ⟨hk.1.1.1, ⟨hk.1.2, hk.2⟩⟩ | exact ⟨hk.1.1, ⟨hk.1.2, hk.2⟩⟩))).2.1 (Kd.R_F (Kd.R_mono (ok' := (fun k_ => (w.heap.size ≤ k_) ∧ k_ ≠ gb203 ∧ k_ ≠ gb204)) (Kd.R_types (Kd.R_types (HO321.out) BK203.out (by decide)) BK204.out (by decide)) (fun k_ hk => by first | exact ⟨hk.1.1.1, ⟨hk.1.2, hk.2⟩⟩ | exact ⟨hk.1.1, ⟨hk.1.2, hk.2⟩⟩))))) (Reps.none _ _)))
          intro v323 w89 ho90 hb hg_ hnew_
          clear hg_ hnew_
          (first | rw [← Ny322.out] at ho90 | (simp only [Int.reduceToNat] at ho90; rw [← Ny322.out] at ho90))
          have n0_ := Aside0.mk (Kd.N_lower ho90 (below_size (blA HB.out))); have n1_ := Aside0.mk (blk_below (bkA BK203.out) hb); have n2_ := Aside0.mk (blk_below (bkA BK204.out) hb); have n3_ := Aside0.mk (below_step (blA HB.out) hb); clear BK203; clear BK204; clear HB; clear HO321; have HO324 := n0_; have BK203 := n1_; have BK204 := n2_; have HB := n3_; clear n0_ n1_ n2_ n3_; clear hb ho90
          refine hK.out _ _ ⟨(clA HB.out hw291_0), (clA HB.out hw297_0), (clA HB.out hw303_0)⟩ (fun hHeld => ?_)
          clear hK K
          refine normA ?_
          refine pureA 16 (some 6) HT_.out ?_
          refine done_ (done_of HT_.out (by kernel_rfl)) ?_
          try go_wp2
          go_ret
          exact ⟨_, by first | rfl | (simp [errW_none, errW_some] <;> rfl) | (simp [*, errW_none, errW_some] <;> rfl), by (with_reducible repeat (first | apply Kd.N_alloc | apply Kd.N_drewN | apply Kd.N_drew)); exact Kd.N_mono HO324.out (fun _ hk => hk.1), blA HB.out⟩
         ·rw [if_neg c74] at H
          exact absurd H (by simp)
        ·rw [if_neg c72] at H
         exact absurd H (by simp)
       ·rw [if_neg c70] at H
        exact absurd H (by simp)
      ·rw [if_neg c69] at H
       have c69b0 : (a1_0 == 2) = false := beq_eq_false_iff_ne.mpr c69; have c69b1 : (a1_0 != 2) = true := bne_iff_ne.mpr c69
       by_cases c91 : a0_0 = 0
       ·rw [if_pos c91] at H
        have c91b0 : (a0_0 == 0) = true := beq_iff_eq.mpr c91; have c91b1 : (a0_0 != 0) = false := bne_eq_false_iff_eq.mpr c91; clear c91
        by_cases c92 : 0 < (l2.length : Int)
        ·rw [if_pos c92] at H
         have c92b0 : decide (0 < (l2.length : Int)) = true := decide_eq_true c92
         have c92b1 : decide (0 < l2.length) = true := decide_eq_true (by omega)
         clear c92; replace H := Option.bind_eq_some_iff.mp H
         obtain ⟨⟨t326, t327, t328, t329, t330⟩, A930, H⟩ := H
         (try dsimp only at H)
         have A93 := Aside0.mk A930; clear A930
         by_cases c94 : 1 < (l2.length : Int)
         ·rw [if_pos c94] at H
          have c94b0 : decide (1 < (l2.length : Int)) = true := decide_eq_true c94
          have c94b1 : decide (1 < l2.length) = true := decide_eq_true (by omega)
          clear c94; replace H := Option.bind_eq_some_iff.mp H
          obtain ⟨⟨t332, t333, t334, t335, t336⟩, A950, H⟩ := H
          (try dsimp only at H)
          have A95 := Aside0.mk A950; clear A950; replace H := Option.bind_eq_some_iff.mp H
          obtain ⟨⟨t337, t338, t339, t340, t341⟩, A960, H⟩ := H
          (try dsimp only at H)
          have A96 := Aside0.mk A960; clear A960
          by_cases c97 : 2 < (l2.length : Int)
          ·rw [if_pos c97] at H
           have c97b0 : decide (2 < (l2.length : Int)) = true := decide_eq_true c97
           have c97b1 : decide (2 < l2.length) = true := decide_eq_true (by omega)
           clear c97; replace H := Option.bind_eq_some_iff.mp H
           obtain ⟨⟨t343, t344, t345, t346, t347⟩, A980, H⟩ := H
           (try dsimp only at H)
           have A98 := Aside0.mk A980; clear A980; replace H := Option.bind_eq_some_iff.mp H
           obtain ⟨⟨t348, t349, t350, t351, t352⟩, A990, H⟩ := H
           (try dsimp only at H)
           have A99 := Aside0.mk A990; clear A990
           obtain ⟨y353, hy353⟩ : ∃ y_ : List (S52), y_ = (([(⟨t326, t327, t328, (⟨t329, t330⟩ : S45)⟩ : S52), (⟨t332, t333, t334, (⟨t335, t336⟩ : S45)⟩ : S52), (⟨t337, t338, t339, (⟨t340, t341⟩ : S45)⟩ : S52), (⟨t343, t344, t345, (⟨t346, t347⟩ : S45)⟩ : S52), (⟨t348, t349, t350, (⟨t351, t352⟩ : S45)⟩ : S52)] : List (S52))) := ⟨_, rfl⟩
           replace H : (if 3 < (l2.length : Int) then ((steepleref25_v.f (rd l2 3)).bind fun bt357 => ((steepleref25_v.f (rd l2 1)).bind fun bt363 => ((steepleref25_v.f (rd l2 2)).bind fun bt369 => ((steepleref25_times.f 1 2).bind fun bt374 => ((steepleref25_plus.f 0 3).bind fun bt379 => (some (([y353, (([(⟨bt357.1, bt357.2.1, bt357.2.2.1, (⟨bt357.2.2.2.1, bt357.2.2.2.2⟩ : S45)⟩ : S52), (⟨bt363.1, bt363.2.1, bt363.2.2.1, (⟨bt363.2.2.2.1, bt363.2.2.2.2⟩ : S45)⟩ : S52), (⟨bt369.1, bt369.2.1, bt369.2.2.1, (⟨bt369.2.2.2.1, bt369.2.2.2.2⟩ : S45)⟩ : S52), (⟨bt374.1, bt374.2.1, bt374.2.2.1, (⟨bt374.2.2.2.1, bt374.2.2.2.2⟩ : S45)⟩ : S52), (⟨bt379.1, bt379.2.1, bt379.2.2.1, (⟨bt379.2.2.2.1, bt379.2.2.2.2⟩ : S45)⟩ : S52)] : List (S52)))] : List (List (S52)))))))))) else (none)) = some r := by first | (rw [hy353]; with_reducible exact H) | (have H2_ := (Option.bind_some _ _).symm.trans H; rw [hy353]; with_reducible exact H2_) | (have H2_ := (Option.bind_some _ _).symm.trans H; with_reducible exact H2_) | with_reducible exact H | (rw [hy353]; exact H) | exact H
           have Ny353 := Aside0.mk hy353; clear hy353
           by_cases c100 : 3 < (l2.length : Int)
           ·rw [if_pos c100] at H
            have c100b0 : decide (3 < (l2.length : Int)) = true := decide_eq_true c100
            have c100b1 : decide (3 < l2.length) = true := decide_eq_true (by omega)
            clear c100; replace H := Option.bind_eq_some_iff.mp H
            obtain ⟨⟨t357, t358, t359, t360, t361⟩, A1010, H⟩ := H
            (try dsimp only at H)
            have A101 := Aside0.mk A1010; clear A1010; replace H := Option.bind_eq_some_iff.mp H
            obtain ⟨⟨t363, t364, t365, t366, t367⟩, A1020, H⟩ := H
            (try dsimp only at H)
            have A102 := Aside0.mk A1020; clear A1020; replace H := Option.bind_eq_some_iff.mp H
            obtain ⟨⟨t369, t370, t371, t372, t373⟩, A1030, H⟩ := H
            (try dsimp only at H)
            have A103 := Aside0.mk A1030; clear A1030; replace H := Option.bind_eq_some_iff.mp H
            obtain ⟨⟨t374, t375, t376, t377, t378⟩, A1040, H⟩ := H
            (try dsimp only at H)
            have A104 := Aside0.mk A1040; clear A1040; replace H := Option.bind_eq_some_iff.mp H
            obtain ⟨⟨t379, t380, t381, t382, t383⟩, A1050, H⟩ := H
            (try dsimp only at H); have A105 := Aside0.mk A1050; clear A1050
            obtain ⟨y384, hy384⟩ : ∃ y_ : List (S52), y_ = (([(⟨t357, t358, t359, (⟨t360, t361⟩ : S45)⟩ : S52), (⟨t363, t364, t365, (⟨t366, t367⟩ : S45)⟩ : S52), (⟨t369, t370, t371, (⟨t372, t373⟩ : S45)⟩ : S52), (⟨t374, t375, t376, (⟨t377, t378⟩ : S45)⟩ : S52), (⟨t379, t380, t381, (⟨t382, t383⟩ : S45)⟩ : S52)] : List (S52))) := ⟨_, rfl⟩
            replace H : (some (([y353, y384] : List (List (S52))))) = some r := by first | (rw [hy384]; with_reducible exact H) | (have H2_ := (Option.bind_some _ _).symm.trans H; rw [hy384]; with_reducible exact H2_) | (have H2_ := (Option.bind_some _ _).symm.trans H; with_reducible exact H2_) | with_reducible exact H | (rw [hy384]; exact H) | exact H
            have Ny384 := Aside0.mk hy384; clear hy384
            obtain ⟨y387, hy387⟩ : ∃ y_ : List (List (S52)), y_ = (([y353, y384] : List (List (S52)))) := ⟨_, rfl⟩
            replace H : (some y387) = some r := by first | (rw [hy387]; with_reducible exact H) | (have H2_ := (Option.bind_some _ _).symm.trans H; rw [hy387]; with_reducible exact H2_) | (have H2_ := (Option.bind_some _ _).symm.trans H; with_reducible exact H2_) | with_reducible exact H | (rw [hy387]; exact H) | exact H
            have Ny387 := Aside0.mk hy387; clear hy387; obtain rfl := Option.some.inj H; have hnb106 := NB204_203.out; have hnc106 := NB203_204.out
            have hcz107 := fun i => blk_cell BK204.out i
            have hfz107 := fun i => blk_frozen BK204.out i
            have hcz108 := fun i => blk_cell BK203.out i
            have hfz108 := fun i => blk_frozen BK203.out i
            try go_wp2
            have n0_ := Aside0.mk (blk_drew BK203.out); have n1_ := Aside0.mk (blk_drew BK204.out); have n2_ := Aside0.mk (below_drew1 HB.out); clear BK203; clear BK204; clear HB; have BK203 := n0_; have BK204 := n1_; have HB := n2_; clear n0_ n1_ n2_
            have p325 : 0 ≤ (0 : Int) := (by omega)
            have q325 : 0 < (l2.length : Int) := of_decide_eq_true (by first | (with_reducible assumption) | assumption)
            obtain ⟨ad325, e325, hx325_0⟩ := Kd.at_int HR2.out 0 p325 q325; have hw325_0 := hx325_0
            (try rw [show ((0 : Int)).toNat = 0 from rfl] at hw325_0)
            (try rw [show 0 * 1 = 0 from rfl] at hw325_0)
            (try rw [Addr.add_zero'] at hw325_0)
            cases e325
            have qi325 : (0 < l2.length) = True := eq_true (by omega)
            (try rw [show ((0 : Int)).toNat = 0 from rfl] at hx325_0)
            (try rw [Addr.add_zero'] at hx325_0)
            replace hx325_0 := (HB.out.cell (World.block_lt_of_cell? w _ hx325_0)).trans hx325_0; replace p325 := eq_true p325; replace q325 := eq_true q325
            have p331 : 0 ≤ (1 : Int) := (by omega)
            have q331 : 1 < (l2.length : Int) := of_decide_eq_true (by first | (with_reducible assumption) | assumption)
            obtain ⟨ad331, e331, hx331_0⟩ := Kd.at_int HR2.out 1 p331 q331; have hw331_0 := hx331_0
            (try rw [show ((1 : Int)).toNat = 1 from rfl] at hw331_0)
            (try rw [show 1 * 1 = 1 from rfl] at hw331_0)
            (try simp only [Nat.reduceMul, Nat.reduceEqDiff, Go.Addr.add, ↓reduceIte] at hw331_0)
            obtain rfl : ad325 = ad331 := (by injection e331)
            (try simp only [show (1 : Int).toNat = 1 from rfl, Nat.reduceMul, Nat.reduceEqDiff, Go.Addr.add, ↓reduceIte] at hx331_0)
            have qi331 : (1 < l2.length) = True := eq_true (by omega)
            (try rw [show ((1 : Int)).toNat = 1 from rfl] at hx331_0)
            replace hx331_0 := (HB.out.cell (World.block_lt_of_cell? w _ hx331_0)).trans hx331_0; replace p331 := eq_true p331; replace q331 := eq_true q331
            have p342 : 0 ≤ (2 : Int) := (by omega)
            have q342 : 2 < (l2.length : Int) := of_decide_eq_true (by first | (with_reducible assumption) | assumption)
            obtain ⟨ad342, e342, hx342_0⟩ := Kd.at_int HR2.out 2 p342 q342; have hw342_0 := hx342_0
            (try rw [show ((2 : Int)).toNat = 2 from rfl] at hw342_0)
            (try rw [show 2 * 1 = 2 from rfl] at hw342_0)
            (try simp only [Nat.reduceMul, Nat.reduceEqDiff, Go.Addr.add, ↓reduceIte] at hw342_0)
            obtain rfl : ad325 = ad342 := (by injection e342)
            (try simp only [show (2 : Int).toNat = 2 from rfl, Nat.reduceMul, Nat.reduceEqDiff, Go.Addr.add, ↓reduceIte] at hx342_0)
            have qi342 : (2 < l2.length) = True := eq_true (by omega)
            (try rw [show ((2 : Int)).toNat = 2 from rfl] at hx342_0)
            replace hx342_0 := (HB.out.cell (World.block_lt_of_cell? w _ hx342_0)).trans hx342_0; replace p342 := eq_true p342; replace q342 := eq_true q342
            have p356 : 0 ≤ (3 : Int) := (by omega)
            have q356 : 3 < (l2.length : Int) := of_decide_eq_true (by first | (with_reducible assumption) | assumption)
            obtain ⟨ad356, e356, hx356_0⟩ := Kd.at_int HR2.out 3 p356 q356; have hw356_0 := hx356_0
            (try rw [show ((3 : Int)).toNat = 3 from rfl] at hw356_0)
            (try rw [show 3 * 1 = 3 from rfl] at hw356_0)
            (try simp only [Nat.reduceMul, Nat.reduceEqDiff, Go.Addr.add, ↓reduceIte] at hw356_0)
            obtain rfl : ad325 = ad356 := (by injection e356)
            (try simp only [show (3 : Int).toNat = 3 from rfl, Nat.reduceMul, Nat.reduceEqDiff, Go.Addr.add, ↓reduceIte] at hx356_0)
            have qi356 : (3 < l2.length) = True := eq_true (by omega)
            (try rw [show ((3 : Int)).toNat = 3 from rfl] at hx356_0)
            replace hx356_0 := (HB.out.cell (World.block_lt_of_cell? w _ hx356_0)).trans hx356_0; replace p356 := eq_true p356; replace q356 := eq_true q356
            have p362 : 0 ≤ (1 : Int) := (by omega)
            have q362 : 1 < (l2.length : Int) := of_decide_eq_true (by first | (with_reducible assumption) | assumption)
            obtain ⟨ad362, e362, hx362_0⟩ := Kd.at_int HR2.out 1 p362 q362; have hw362_0 := hx362_0
            (try rw [show ((1 : Int)).toNat = 1 from rfl] at hw362_0)
            (try rw [show 1 * 1 = 1 from rfl] at hw362_0)
            (try simp only [Nat.reduceMul, Nat.reduceEqDiff, Go.Addr.add, ↓reduceIte] at hw362_0)
            obtain rfl : ad325 = ad362 := (by injection e362)
            (try simp only [show (1 : Int).toNat = 1 from rfl, Nat.reduceMul, Nat.reduceEqDiff, Go.Addr.add, ↓reduceIte] at hx362_0)
            have qi362 : (1 < l2.length) = True := eq_true (by omega)
            (try rw [show ((1 : Int)).toNat = 1 from rfl] at hx362_0)
            replace hx362_0 := (HB.out.cell (World.block_lt_of_cell? w _ hx362_0)).trans hx362_0; replace p362 := eq_true p362; replace q362 := eq_true q362
            have p368 : 0 ≤ (2 : Int) := (by omega)
            have q368 : 2 < (l2.length : Int) := of_decide_eq_true (by first | (with_reducible assumption) | assumption)
            obtain ⟨ad368, e368, hx368_0⟩ := Kd.at_int HR2.out 2 p368 q368; have hw368_0 := hx368_0
            (try rw [show ((2 : Int)).toNat = 2 from rfl] at hw368_0)
            (try rw [show 2 * 1 = 2 from rfl] at hw368_0)
            (try simp only [Nat.reduceMul, Nat.reduceEqDiff, Go.Addr.add, ↓reduceIte] at hw368_0)
            obtain rfl : ad325 = ad368 := (by injection e368)
            (try simp only [show (2 : Int).toNat = 2 from rfl, Nat.reduceMul, Nat.reduceEqDiff, Go.Addr.add, ↓reduceIte] at hx368_0)
            have qi368 : (2 < l2.length) = True := eq_true (by omega)
            (try rw [show ((2 : Int)).toNat = 2 from rfl] at hx368_0)
            replace hx368_0 := (HB.out.cell (World.block_lt_of_cell? w _ hx368_0)).trans hx368_0; replace p368 := eq_true p368; replace q368 := eq_true q368
            refine start_ (n := 32) (S := fun w' => True) (ds := []) #[false, false, false, false, false, false, false, false, false, false, false, false, false, false, false, false, false, false, false, false, false, false, false, false, false, false, false, false, false, false, false, false] (by kernel_rfl) rfl rfl trivial (fun hHeld => ?_); refine with_tabW steepleref25_System_Laid.tab10 steepleref25_System_Laid.bits10 (fun HT_ HW_ => ?_)
            generalize wc.drew = w109 at BK203 BK204 HB hx325_0 hx331_0 hx342_0 hx356_0 hx362_0 hx368_0 hHeld ⊢
            refine pureA 0 (some 86) HT_.out ?_
            refine pureA 4 (some 90) HT_.out ?_
            refine pureA 9 (some 95) HT_.out ?_
            refine pureA 15 (some 101) HT_.out ?_
            refine pureA 19 (some 105) HT_.out ?_
            refine pureA 23 (some 109) HT_.out ?_
            refine inv_at [1, 2, 3, 5, 6, 7, 8, 10, 11, 12, 13, 14, 16, 17, 18, 20, 21, 22, 24, 25, 26, 27, 28, 29, 30, 31] (fun a0_ b a w' => ∃ (v354 : Value) (v385 : Value) (v388 : Value) (m31_ : Value), a = putSel a0_ b [(1, 87, .pointer (some ad325)), (2, 88, .int .i64 (rd l2 0)), (3, 89, .agg #[.int .i64 t326, .int .i64 t327, .int .i64 t328, .int .u64 t329, .int .u64 t330]), (5, 91, .pointer (some (ad325.add 1))), (6, 92, .int .i64 (rd l2 1)), (7, 93, .agg #[.int .i64 t332, .int .i64 t333, .int .i64 t334, .int .u64 t335, .int .u64 t336]), (8, 94, .agg #[.int .i64 t337, .int .i64 t338, .int .i64 t339, .int .u64 t340, .int .u64 t341]), (10, 96, .pointer (some (ad325.add 2))), (11, 97, .int .i64 (rd l2 2)), (12, 98, .agg #[.int .i64 t343, .int .i64 t344, .int .i64 t345, .int .u64 t346, .int .u64 t347]), (13, 99, .agg #[.int .i64 t348, .int .i64 t349, .int .i64 t350, .int .u64 t351, .int .u64 t352]), (14, 100, v354), (16, 102, .pointer (some (ad325.add 3))), (17, 103, .int .i64 (rd l2 3)), (18, 104, .agg #[.int .i64 t357, .int .i64 t358, .int .i64 t359, .int .u64 t360, .int .u64 t361]), (20, 106, .pointer (some (ad325.add 1))), (21, 107, .int .i64 (rd l2 1)), (22, 108, .agg #[.int .i64 t363, .int .i64 t364, .int .i64 t365, .int .u64 t366, .int .u64 t367]), (24, 110, .pointer (some (ad325.add 2))), (25, 111, .int .i64 (rd l2 2)), (26, 112, .agg #[.int .i64 t369, .int .i64 t370, .int .i64 t371, .int .u64 t372, .int .u64 t373]), (27, 113, .agg #[.int .i64 t374, .int .i64 t375, .int .i64 t376, .int .u64 t377, .int .u64 t378]), (28, 114, .agg #[.int .i64 t379, .int .i64 t380, .int .i64 t381, .int .u64 t382, .int .u64 t383]), (29, 115, v385), (30, 116, v388), (31, 6, m31_)] ∧ (w'.heap[gb203]? = some (.cells #[.int .i64 a0_0, .int .i64 a0_1, .int .i64 a0_2, .int .i64 a0_3, .int .i64 a0_4, .slice A0_5 l0_5.length c0_5] 28 (0, 0))) ∧ (w'.heap[gb204]? = some (.cells #[.int .i64 a1_0, .int .i64 a1_1, .int .i64 a1_2, .int .i64 a1_3, .int .i64 a1_4] 106 (0, 0))) ∧ (Below w.heap.size w w') ∧ (b 14 = true → b 30 = false → Kd.R k52 52 w' w.heap.size (fun k_ => (w.heap.size ≤ k_)) v354 y353) ∧ (b 29 = true → b 30 = false → Kd.R k52 52 w' w.heap.size (fun k_ => (w.heap.size ≤ k_)) v385 y384) ∧ (b 30 = true → Kd.N (Kd.slice 52 k52) 48 w' w.heap.size (fun k_ => (w.heap.size ≤ k_) ∧ k_ ≠ gb203 ∧ k_ ≠ gb204) v388 y387) ∧ (b 31 = true → (m31_ : Value) = v388)) HT_.out HW_.out (by kernel_rfl) (by kernel_rfl) ?_ ?_ ?_
            ·exact ⟨.bool false, .bool false, .bool false, .bool false, by simp only [putSel, Bool.false_eq_true, if_false], BK203.out, BK204.out, HB.out, fun h_ => absurd h_ (by decide), fun h_ => absurd h_ (by decide), fun h_ => absurd h_ (by decide), fun h_ => absurd h_ (by decide)⟩
            ·skip
             clear BK203 BK204 HB
             refine steps_cons ?_ ?_
             ·rintro b a w' ⟨v354, v385, v388, m31_, ha, Q_BK203, Q_BK204, Q_HB, Q_HO355, Q_HO386, Q_HO389, Q_X31_⟩ hb_ hon hoff
              refine ⟨_, rfl, fun K hK => ?_⟩
              have e86 : a.tmps[86]? = some (.slice (some ad325) l2.length c2) := by rw [ha]; exact (putSel_off rfl).trans rfl
              replace ha := Aside0.mk ha; have BK203 := Aside0.mk Q_BK203; have BK204 := Aside0.mk Q_BK204; have HB := Aside0.mk Q_HB; have hs0_ : w'.cell? ad325 = some (.int .i64 (rd l2 0)) := (clA HB.out hw325_0)
              refine value_ (w1 := w') (v := .pointer (some ad325)) (by rfl) rfl ?_ ?_
              ·go_simp
               (try simp only [i64_w])
               try rfl
              refine hK.out _ _ ⟨v354, v385, v388, m31_, (by rw [ha.out]; exact putSel_upk 0 hb_ rfl rfl rfl), Q_BK203, Q_BK204, Q_HB, fun h0_ _ => absurd ((hoff 14 (by kernel_rfl)).symm.trans h0_) (by decide), fun h0_ _ => absurd ((hoff 29 (by kernel_rfl)).symm.trans h0_) (by decide), fun h0_ => absurd ((hoff 30 (by kernel_rfl)).symm.trans h0_) (by decide), fun h0_ => absurd ((hoff 31 (by kernel_rfl)).symm.trans h0_) (by decide)⟩
             refine steps_cons ?_ ?_
             ·rintro b a w' ⟨v354, v385, v388, m31_, ha, Q_BK203, Q_BK204, Q_HB, Q_HO355, Q_HO386, Q_HO389, Q_X31_⟩ hb_ hon hoff
              refine ⟨_, rfl, fun K hK => ?_⟩
              have e87 : a.tmps[87]? = some (.pointer (some ad325)) := by rw [ha]; exact putSel_on (e := (1, 87, .pointer (some ad325))) 0 rfl rfl (hon 1 (by kernel_rfl)) rfl
              replace ha := Aside0.mk ha; have BK203 := Aside0.mk Q_BK203; have BK204 := Aside0.mk Q_BK204; have HB := Aside0.mk Q_HB; have hs0_ : w'.cell? ad325 = some (.int .i64 (rd l2 0)) := (clA HB.out hw325_0)
              refine value_ (w1 := w') (v := .int .i64 (rd l2 0)) (by rfl) rfl ?_ ?_
              ·go_simp
               (try simp only [i64_w])
               try rfl
              refine hK.out _ _ ⟨v354, v385, v388, m31_, (by rw [ha.out]; exact putSel_upk 1 hb_ rfl rfl rfl), Q_BK203, Q_BK204, Q_HB, fun h0_ _ => absurd ((hoff 14 (by kernel_rfl)).symm.trans h0_) (by decide), fun h0_ _ => absurd ((hoff 29 (by kernel_rfl)).symm.trans h0_) (by decide), fun h0_ => absurd ((hoff 30 (by kernel_rfl)).symm.trans h0_) (by decide), fun h0_ => absurd ((hoff 31 (by kernel_rfl)).symm.trans h0_) (by decide)⟩
             refine steps_cons ?_ ?_
             ·rintro b a w' ⟨v354, v385, v388, m31_, ha, Q_BK203, Q_BK204, Q_HB, Q_HO355, Q_HO386, Q_HO389, Q_X31_⟩ hb_ hon hoff
              refine ⟨_, rfl, fun K hK => ?_⟩
              have e88 : a.tmps[88]? = some (.int .i64 (rd l2 0)) := by rw [ha]; exact putSel_on (e := (2, 88, .int .i64 (rd l2 0))) 1 rfl rfl (hon 2 (by kernel_rfl)) rfl
              replace ha := Aside0.mk ha; have BK203 := Aside0.mk Q_BK203; have BK204 := Aside0.mk Q_BK204; have HB := Aside0.mk Q_HB
              refine goes_ Try.func91 (by kernel_rfl) rfl #[.int .i64 (rd l2 0)] (by rfl) rfl rfl (by first | (simp only [List.map_toArray, List.map_cons, List.map_nil, Act.eval, Array.getD_eq_getD_getElem?, Option.getD_some, e88]; done) | (simp only [List.map_toArray, List.map_cons, List.map_nil, Act.eval, Array.getD_eq_getD_getElem?, Option.getD_some, e88]; rfl)) ?_
              with_reducible refine (steepleref25_v.calls (rd l2 0) t326 t327 t328 t329 t330 _ A93.out).mono ?_
              rintro e w110 ⟨rfl, hb⟩
              refine ⟨_, rfl, ?_⟩
              have n0_ := Aside0.mk (blk_below (bkA BK203.out) hb); have n1_ := Aside0.mk (blk_below (bkA BK204.out) hb); have n2_ := Aside0.mk (below_step (blA HB.out) hb); clear BK203; clear BK204; clear HB; have BK203 := n0_; have BK204 := n1_; have HB := n2_; clear n0_ n1_ n2_
              (try clear hb)
              refine hK.out _ _ ⟨v354, v385, v388, m31_, (by rw [ha.out]; exact putSel_upk 2 hb_ rfl rfl rfl), (bkA BK203.out), (bkA BK204.out), (blA HB.out), fun h0_ _ => absurd ((hoff 14 (by kernel_rfl)).symm.trans h0_) (by decide), fun h0_ _ => absurd ((hoff 29 (by kernel_rfl)).symm.trans h0_) (by decide), fun h0_ => absurd ((hoff 30 (by kernel_rfl)).symm.trans h0_) (by decide), fun h0_ => absurd ((hoff 31 (by kernel_rfl)).symm.trans h0_) (by decide)⟩
             refine steps_cons ?_ ?_
             ·rintro b a w' ⟨v354, v385, v388, m31_, ha, Q_BK203, Q_BK204, Q_HB, Q_HO355, Q_HO386, Q_HO389, Q_X31_⟩ hb_ hon hoff
              refine ⟨_, rfl, fun K hK => ?_⟩
              have e90 : a.tmps[90]? = some (.slice (some ad325) l2.length c2) := by rw [ha]; exact (putSel_off rfl).trans rfl
              replace ha := Aside0.mk ha; have BK203 := Aside0.mk Q_BK203; have BK204 := Aside0.mk Q_BK204; have HB := Aside0.mk Q_HB; have hs1_ : w'.cell? ⟨ad325.block, ad325.off + 1, none⟩ = some (.int .i64 (rd l2 1)) := (clA HB.out hw331_0)
              refine value_ (w1 := w') (v := .pointer (some (ad325.add 1))) (by rfl) rfl ?_ ?_
              ·go_simp
               (try simp only [i64_w])
               try rfl
              refine hK.out _ _ ⟨v354, v385, v388, m31_, (by rw [ha.out]; exact putSel_upk 3 hb_ rfl rfl rfl), Q_BK203, Q_BK204, Q_HB, fun h0_ _ => absurd ((hoff 14 (by kernel_rfl)).symm.trans h0_) (by decide), fun h0_ _ => absurd ((hoff 29 (by kernel_rfl)).symm.trans h0_) (by decide), fun h0_ => absurd ((hoff 30 (by kernel_rfl)).symm.trans h0_) (by decide), fun h0_ => absurd ((hoff 31 (by kernel_rfl)).symm.trans h0_) (by decide)⟩
             refine steps_cons ?_ ?_
             ·rintro b a w' ⟨v354, v385, v388, m31_, ha, Q_BK203, Q_BK204, Q_HB, Q_HO355, Q_HO386, Q_HO389, Q_X31_⟩ hb_ hon hoff
              refine ⟨_, rfl, fun K hK => ?_⟩
              have e91 : a.tmps[91]? = some (.pointer (some (ad325.add 1))) := by rw [ha]; exact putSel_on (e := (5, 91, .pointer (some (ad325.add 1)))) 3 rfl rfl (hon 5 (by kernel_rfl)) rfl
              replace ha := Aside0.mk ha; have BK203 := Aside0.mk Q_BK203; have BK204 := Aside0.mk Q_BK204; have HB := Aside0.mk Q_HB; have hs1_ : w'.cell? ⟨ad325.block, ad325.off + 1, none⟩ = some (.int .i64 (rd l2 1)) := (clA HB.out hw331_0)
              refine value_ (w1 := w') (v := .int .i64 (rd l2 1)) (by rfl) rfl ?_ ?_
              ·go_simp
               (try simp only [i64_w])
               try rfl
              refine hK.out _ _ ⟨v354, v385, v388, m31_, (by rw [ha.out]; exact putSel_upk 4 hb_ rfl rfl rfl), Q_BK203, Q_BK204, Q_HB, fun h0_ _ => absurd ((hoff 14 (by kernel_rfl)).symm.trans h0_) (by decide), fun h0_ _ => absurd ((hoff 29 (by kernel_rfl)).symm.trans h0_) (by decide), fun h0_ => absurd ((hoff 30 (by kernel_rfl)).symm.trans h0_) (by decide), fun h0_ => absurd ((hoff 31 (by kernel_rfl)).symm.trans h0_) (by decide)⟩
             refine steps_cons ?_ ?_
             ·rintro b a w' ⟨v354, v385, v388, m31_, ha, Q_BK203, Q_BK204, Q_HB, Q_HO355, Q_HO386, Q_HO389, Q_X31_⟩ hb_ hon hoff
              refine ⟨_, rfl, fun K hK => ?_⟩
              have e92 : a.tmps[92]? = some (.int .i64 (rd l2 1)) := by rw [ha]; exact putSel_on (e := (6, 92, .int .i64 (rd l2 1))) 4 rfl rfl (hon 6 (by kernel_rfl)) rfl
              replace ha := Aside0.mk ha; have BK203 := Aside0.mk Q_BK203; have BK204 := Aside0.mk Q_BK204; have HB := Aside0.mk Q_HB
              refine goes_ Try.func91 (by kernel_rfl) rfl #[.int .i64 (rd l2 1)] (by rfl) rfl rfl (by first | (simp only [List.map_toArray, List.map_cons, List.map_nil, Act.eval, Array.getD_eq_getD_getElem?, Option.getD_some, e92]; done) | (simp only [List.map_toArray, List.map_cons, List.map_nil, Act.eval, Array.getD_eq_getD_getElem?, Option.getD_some, e92]; rfl)) ?_
              with_reducible refine (steepleref25_v.calls (rd l2 1) t332 t333 t334 t335 t336 _ A95.out).mono ?_
              rintro e w112 ⟨rfl, hb⟩
              refine ⟨_, rfl, ?_⟩
              have n0_ := Aside0.mk (blk_below (bkA BK203.out) hb); have n1_ := Aside0.mk (blk_below (bkA BK204.out) hb); have n2_ := Aside0.mk (below_step (blA HB.out) hb); clear BK203; clear BK204; clear HB; have BK203 := n0_; have BK204 := n1_; have HB := n2_; clear n0_ n1_ n2_
              (try clear hb)
              refine hK.out _ _ ⟨v354, v385, v388, m31_, (by rw [ha.out]; exact putSel_upk 5 hb_ rfl rfl rfl), (bkA BK203.out), (bkA BK204.out), (blA HB.out), fun h0_ _ => absurd ((hoff 14 (by kernel_rfl)).symm.trans h0_) (by decide), fun h0_ _ => absurd ((hoff 29 (by kernel_rfl)).symm.trans h0_) (by decide), fun h0_ => absurd ((hoff 30 (by kernel_rfl)).symm.trans h0_) (by decide), fun h0_ => absurd ((hoff 31 (by kernel_rfl)).symm.trans h0_) (by decide)⟩
             refine steps_cons ?_ ?_
             ·rintro b a w' ⟨v354, v385, v388, m31_, ha, Q_BK203, Q_BK204, Q_HB, Q_HO355, Q_HO386, Q_HO389, Q_X31_⟩ hb_ hon hoff
              refine ⟨_, rfl, fun K hK => ?_⟩
              replace ha := Aside0.mk ha; have BK203 := Aside0.mk Q_BK203; have BK204 := Aside0.mk Q_BK204; have HB := Aside0.mk Q_HB
              refine goes_ Try.func92 (by kernel_rfl) rfl #[.int .i64 0, .int .i64 1] (by rfl) rfl rfl (by first | (simp only [List.map_toArray, List.map_cons, List.map_nil, Act.eval, Array.getD_eq_getD_getElem?, Option.getD_some]; done) | (simp only [List.map_toArray, List.map_cons, List.map_nil, Act.eval, Array.getD_eq_getD_getElem?, Option.getD_some]; rfl)) ?_
              with_reducible refine (steepleref25_plus.calls 0 1 t337 t338 t339 t340 t341 _ A96.out).mono ?_
              rintro e w113 ⟨rfl, hb⟩
              refine ⟨_, rfl, ?_⟩
              have n0_ := Aside0.mk (blk_below (bkA BK203.out) hb); have n1_ := Aside0.mk (blk_below (bkA BK204.out) hb); have n2_ := Aside0.mk (below_step (blA HB.out) hb); clear BK203; clear BK204; clear HB; have BK203 := n0_; have BK204 := n1_; have HB := n2_; clear n0_ n1_ n2_
              (try clear hb)
              refine hK.out _ _ ⟨v354, v385, v388, m31_, (by rw [ha.out]; exact putSel_upk 6 hb_ rfl rfl rfl), (bkA BK203.out), (bkA BK204.out), (blA HB.out), fun h0_ _ => absurd ((hoff 14 (by kernel_rfl)).symm.trans h0_) (by decide), fun h0_ _ => absurd ((hoff 29 (by kernel_rfl)).symm.trans h0_) (by decide), fun h0_ => absurd ((hoff 30 (by kernel_rfl)).symm.trans h0_) (by decide), fun h0_ => absurd ((hoff 31 (by kernel_rfl)).symm.trans h0_) (by decide)⟩
             refine steps_cons ?_ ?_
             ·rintro b a w' ⟨v354, v385, v388, m31_, ha, Q_BK203, Q_BK204, Q_HB, Q_HO355, Q_HO386, Q_HO389, Q_X31_⟩ hb_ hon hoff
              refine ⟨_, rfl, fun K hK => ?_⟩
              have e95 : a.tmps[95]? = some (.slice (some ad325) l2.length c2) := by rw [ha]; exact (putSel_off rfl).trans rfl
              replace ha := Aside0.mk ha; have BK203 := Aside0.mk Q_BK203; have BK204 := Aside0.mk Q_BK204; have HB := Aside0.mk Q_HB; have hs2_ : w'.cell? ⟨ad325.block, ad325.off + 2, none⟩ = some (.int .i64 (rd l2 2)) := (clA HB.out hw342_0)
              refine value_ (w1 := w') (v := .pointer (some (ad325.add 2))) (by rfl) rfl ?_ ?_
              ·go_simp
               (try simp only [i64_w])
               try rfl
              refine hK.out _ _ ⟨v354, v385, v388, m31_, (by rw [ha.out]; exact putSel_upk 7 hb_ rfl rfl rfl), Q_BK203, Q_BK204, Q_HB, fun h0_ _ => absurd ((hoff 14 (by kernel_rfl)).symm.trans h0_) (by decide), fun h0_ _ => absurd ((hoff 29 (by kernel_rfl)).symm.trans h0_) (by decide), fun h0_ => absurd ((hoff 30 (by kernel_rfl)).symm.trans h0_) (by decide), fun h0_ => absurd ((hoff 31 (by kernel_rfl)).symm.trans h0_) (by decide)⟩
             refine steps_cons ?_ ?_
             ·rintro b a w' ⟨v354, v385, v388, m31_, ha, Q_BK203, Q_BK204, Q_HB, Q_HO355, Q_HO386, Q_HO389, Q_X31_⟩ hb_ hon hoff
              refine ⟨_, rfl, fun K hK => ?_⟩
              have e96 : a.tmps[96]? = some (.pointer (some (ad325.add 2))) := by rw [ha]; exact putSel_on (e := (10, 96, .pointer (some (ad325.add 2)))) 7 rfl rfl (hon 10 (by kernel_rfl)) rfl
              replace ha := Aside0.mk ha; have BK203 := Aside0.mk Q_BK203; have BK204 := Aside0.mk Q_BK204; have HB := Aside0.mk Q_HB; have hs2_ : w'.cell? ⟨ad325.block, ad325.off + 2, none⟩ = some (.int .i64 (rd l2 2)) := (clA HB.out hw342_0)
              refine value_ (w1 := w') (v := .int .i64 (rd l2 2)) (by rfl) rfl ?_ ?_
              ·go_simp
               (try simp only [i64_w])
               try rfl
              refine hK.out _ _ ⟨v354, v385, v388, m31_, (by rw [ha.out]; exact putSel_upk 8 hb_ rfl rfl rfl), Q_BK203, Q_BK204, Q_HB, fun h0_ _ => absurd ((hoff 14 (by kernel_rfl)).symm.trans h0_) (by decide), fun h0_ _ => absurd ((hoff 29 (by kernel_rfl)).symm.trans h0_) (by decide), fun h0_ => absurd ((hoff 30 (by kernel_rfl)).symm.trans h0_) (by decide), fun h0_ => absurd ((hoff 31 (by kernel_rfl)).symm.trans h0_) (by decide)⟩
             refine steps_cons ?_ ?_
             ·rintro b a w' ⟨v354, v385, v388, m31_, ha, Q_BK203, Q_BK204, Q_HB, Q_HO355, Q_HO386, Q_HO389, Q_X31_⟩ hb_ hon hoff
              refine ⟨_, rfl, fun K hK => ?_⟩
              have e97 : a.tmps[97]? = some (.int .i64 (rd l2 2)) := by rw [ha]; exact putSel_on (e := (11, 97, .int .i64 (rd l2 2))) 8 rfl rfl (hon 11 (by kernel_rfl)) rfl
              replace ha := Aside0.mk ha; have BK203 := Aside0.mk Q_BK203; have BK204 := Aside0.mk Q_BK204; have HB := Aside0.mk Q_HB
              refine goes_ Try.func91 (by kernel_rfl) rfl #[.int .i64 (rd l2 2)] (by rfl) rfl rfl (by first | (simp only [List.map_toArray, List.map_cons, List.map_nil, Act.eval, Array.getD_eq_getD_getElem?, Option.getD_some, e97]; done) | (simp only [List.map_toArray, List.map_cons, List.map_nil, Act.eval, Array.getD_eq_getD_getElem?, Option.getD_some, e97]; rfl)) ?_
              with_reducible refine (steepleref25_v.calls (rd l2 2) t343 t344 t345 t346 t347 _ A98.out).mono ?_
              rintro e w114 ⟨rfl, hb⟩
              refine ⟨_, rfl, ?_⟩
              have n0_ := Aside0.mk (blk_below (bkA BK203.out) hb); have n1_ := Aside0.mk (blk_below (bkA BK204.out) hb); have n2_ := Aside0.mk (below_step (blA HB.out) hb); clear BK203; clear BK204; clear HB; have BK203 := n0_; have BK204 := n1_; have HB := n2_; clear n0_ n1_ n2_
              (try clear hb)
              refine hK.out _ _ ⟨v354, v385, v388, m31_, (by rw [ha.out]; exact putSel_upk 9 hb_ rfl rfl rfl), (bkA BK203.out), (bkA BK204.out), (blA HB.out), fun h0_ _ => absurd ((hoff 14 (by kernel_rfl)).symm.trans h0_) (by decide), fun h0_ _ => absurd ((hoff 29 (by kernel_rfl)).symm.trans h0_) (by decide), fun h0_ => absurd ((hoff 30 (by kernel_rfl)).symm.trans h0_) (by decide), fun h0_ => absurd ((hoff 31 (by kernel_rfl)).symm.trans h0_) (by decide)⟩
             refine steps_cons ?_ ?_
             ·rintro b a w' ⟨v354, v385, v388, m31_, ha, Q_BK203, Q_BK204, Q_HB, Q_HO355, Q_HO386, Q_HO389, Q_X31_⟩ hb_ hon hoff
              refine ⟨_, rfl, fun K hK => ?_⟩
              replace ha := Aside0.mk ha; have BK203 := Aside0.mk Q_BK203; have BK204 := Aside0.mk Q_BK204; have HB := Aside0.mk Q_HB
              refine goes_ Try.func92 (by kernel_rfl) rfl #[.int .i64 2, .int .i64 3] (by rfl) rfl rfl (by first | (simp only [List.map_toArray, List.map_cons, List.map_nil, Act.eval, Array.getD_eq_getD_getElem?, Option.getD_some]; done) | (simp only [List.map_toArray, List.map_cons, List.map_nil, Act.eval, Array.getD_eq_getD_getElem?, Option.getD_some]; rfl)) ?_
              with_reducible refine (steepleref25_plus.calls 2 3 t348 t349 t350 t351 t352 _ A99.out).mono ?_
              rintro e w115 ⟨rfl, hb⟩
              refine ⟨_, rfl, ?_⟩
              have n0_ := Aside0.mk (blk_below (bkA BK203.out) hb); have n1_ := Aside0.mk (blk_below (bkA BK204.out) hb); have n2_ := Aside0.mk (below_step (blA HB.out) hb); clear BK203; clear BK204; clear HB; have BK203 := n0_; have BK204 := n1_; have HB := n2_; clear n0_ n1_ n2_
              (try clear hb)
              refine hK.out _ _ ⟨v354, v385, v388, m31_, (by rw [ha.out]; exact putSel_upk 10 hb_ rfl rfl rfl), (bkA BK203.out), (bkA BK204.out), (blA HB.out), fun h0_ _ => absurd ((hoff 14 (by kernel_rfl)).symm.trans h0_) (by decide), fun h0_ _ => absurd ((hoff 29 (by kernel_rfl)).symm.trans h0_) (by decide), fun h0_ => absurd ((hoff 30 (by kernel_rfl)).symm.trans h0_) (by decide), fun h0_ => absurd ((hoff 31 (by kernel_rfl)).symm.trans h0_) (by decide)⟩
             refine steps_cons ?_ ?_
             ·rintro b a w' ⟨v354, v385, v388, m31_, ha, Q_BK203, Q_BK204, Q_HB, Q_HO355, Q_HO386, Q_HO389, Q_X31_⟩ hb_ hon hoff
              refine ⟨_, rfl, fun K hK => ?_⟩
              have e89 : a.tmps[89]? = some (.agg #[.int .i64 t326, .int .i64 t327, .int .i64 t328, .int .u64 t329, .int .u64 t330]) := by rw [ha]; exact putSel_on (e := (3, 89, .agg #[.int .i64 t326, .int .i64 t327, .int .i64 t328, .int .u64 t329, .int .u64 t330])) 2 rfl rfl (hon 3 (by kernel_rfl)) rfl
              have e93 : a.tmps[93]? = some (.agg #[.int .i64 t332, .int .i64 t333, .int .i64 t334, .int .u64 t335, .int .u64 t336]) := by rw [ha]; exact putSel_on (e := (7, 93, .agg #[.int .i64 t332, .int .i64 t333, .int .i64 t334, .int .u64 t335, .int .u64 t336])) 5 rfl rfl (hon 7 (by kernel_rfl)) rfl
              have e94 : a.tmps[94]? = some (.agg #[.int .i64 t337, .int .i64 t338, .int .i64 t339, .int .u64 t340, .int .u64 t341]) := by rw [ha]; exact putSel_on (e := (8, 94, .agg #[.int .i64 t337, .int .i64 t338, .int .i64 t339, .int .u64 t340, .int .u64 t341])) 6 rfl rfl (hon 8 (by kernel_rfl)) rfl
              have e98 : a.tmps[98]? = some (.agg #[.int .i64 t343, .int .i64 t344, .int .i64 t345, .int .u64 t346, .int .u64 t347]) := by rw [ha]; exact putSel_on (e := (12, 98, .agg #[.int .i64 t343, .int .i64 t344, .int .i64 t345, .int .u64 t346, .int .u64 t347])) 9 rfl rfl (hon 12 (by kernel_rfl)) rfl
              have e99 : a.tmps[99]? = some (.agg #[.int .i64 t348, .int .i64 t349, .int .i64 t350, .int .u64 t351, .int .u64 t352]) := by rw [ha]; exact putSel_on (e := (13, 99, .agg #[.int .i64 t348, .int .i64 t349, .int .i64 t350, .int .u64 t351, .int .u64 t352])) 10 rfl rfl (hon 13 (by kernel_rfl)) rfl
              replace ha := Aside0.mk ha; have BK203 := Aside0.mk Q_BK203; have BK204 := Aside0.mk Q_BK204; have HB := Aside0.mk Q_HB
              refine Kd.R_lit_step k52 _ 52 ?hg (N := 100) ?hd (xs := ([(⟨t326, t327, t328, (⟨t329, t330⟩ : S45)⟩ : S52), (⟨t332, t333, t334, (⟨t335, t336⟩ : S45)⟩ : S52), (⟨t337, t338, t339, (⟨t340, t341⟩ : S45)⟩ : S52), (⟨t343, t344, t345, (⟨t346, t347⟩ : S45)⟩ : S52), (⟨t348, t349, t350, (⟨t351, t352⟩ : S45)⟩ : S52)] : List (S52))) (inner := [.int .i64 t326, .int .i64 t327, .int .i64 t328, .int .u64 t329, .int .u64 t330, .int .i64 t332, .int .i64 t333, .int .i64 t334, .int .u64 t335, .int .u64 t336, .int .i64 t337, .int .i64 t338, .int .i64 t339, .int .u64 t340, .int .u64 t341, .int .i64 t343, .int .i64 t344, .int .i64 t345, .int .u64 t346, .int .u64 t347, .int .i64 t348, .int .i64 t349, .int .i64 t350, .int .u64 t351, .int .u64 t352]) (ok := fun _ => True) (okp := fun _ => True) ?hr ?hp (fun _ hk => hk) trivial (Below.refl _ _) (Nat.le_refl _) (by simp) ?_; (case hd => rfl); (case hg => rfl); (case hr => first | (go_simp; done) | (go_simp; rfl)); (case hp => exact (Reps.c5 (show Kd.M k52 _ _ _ (⟨t326, t327, t328, (⟨t329, t330⟩ : S45)⟩ : S52) [.int .i64 t326, .int .i64 t327, .int .i64 t328, .int .u64 t329, .int .u64 t330] from (k52_mkM _ _ _ (⟨t326, t327, t328, (⟨t329, t330⟩ : S45)⟩ : S52) )) (Reps.c5 (show Kd.M k52 _ _ _ (⟨t332, t333, t334, (⟨t335, t336⟩ : S45)⟩ : S52) [.int .i64 t332, .int .i64 t333, .int .i64 t334, .int .u64 t335, .int .u64 t336] from (k52_mkM _ _ _ (⟨t332, t333, t334, (⟨t335, t336⟩ : S45)⟩ : S52) )) (Reps.c5 (show Kd.M k52 _ _ _ (⟨t337, t338, t339, (⟨t340, t341⟩ : S45)⟩ : S52) [.int .i64 t337, .int .i64 t338, .int .i64 t339, .int .u64 t340, .int .u64 t341] from (k52_mkM _ _ _ (⟨t337, t338, t339, (⟨t340, t341⟩ : S45)⟩ : S52) )) (Reps.c5 (show Kd.M k52 _ _ _ (⟨t343, t344, t345, (⟨t346, t347⟩ : S45)⟩ : S52) [.int .i64 t343, .int .i64 t344, .int .i64 t345, .int .u64 t346, .int .u64 t347] from (k52_mkM _ _ _ (⟨t343, t344, t345, (⟨t346, t347⟩ : S45)⟩ : S52) )) (Reps.c5 (show Kd.M k52 _ _ _ (⟨t348, t349, t350, (⟨t351, t352⟩ : S45)⟩ : S52) [.int .i64 t348, .int .i64 t349, .int .i64 t350, .int .u64 t351, .int .u64 t352] from (k52_mkM _ _ _ (⟨t348, t349, t350, (⟨t351, t352⟩ : S45)⟩ : S52) )) (Reps.none _ _)))))))
              intro v354 w116 ho117 hb hg_ hnew_
              clear hg_ hnew_
              (first | rw [← Ny353.out] at ho117 | (simp only [Int.reduceToNat] at ho117; rw [← Ny353.out] at ho117))
              have n0_ := Aside0.mk (Kd.R_lower (Kd.R_newM (M := fun k_ => (w.heap.size ≤ k_)) ho117 (below_size (blA HB.out)) (fun k_ h_ => h_)) (below_size (blA HB.out)))
              have n1_ := Aside0.mk (blk_below (bkA BK203.out) hb); have n2_ := Aside0.mk (blk_below (bkA BK204.out) hb); have n3_ := Aside0.mk (below_step (blA HB.out) hb)
              have z_HO386 := fun (h0_ : b 29 = true) (h1_ : b 30 = false) => (show Kd.R k52 52 w116 w.heap.size (fun k_ => (w.heap.size ≤ k_)) v385 y384 from by first | exact (Kd.R_elder' (raA (Q_HO386 h0_ h1_)) (Kd.R_base ho117) hb) | exact Kd.R_mono (Kd.R_elder' (raA (Q_HO386 h0_ h1_)) (Kd.R_base ho117) hb) (fun _ h_ => by first | trivial | exact h_ | exact h_.1))
              clear BK203; clear BK204; clear HB; have HO355 := n0_; have BK203 := n1_; have BK204 := n2_; have HB := n3_; clear n0_ n1_ n2_ n3_; clear hb ho117
              refine hK.out _ _ ⟨v354, v385, v388, m31_, (by rw [ha.out]; exact putSel_upk 11 hb_ rfl rfl rfl), (bkA BK203.out), (bkA BK204.out), (blA HB.out), fun _ _ => (by (with_reducible repeat (first | apply Kd.R_alloc | apply Kd.R_drewN | apply Kd.R_drew)); exact Kd.R_mono HO355.out (fun _ hk => hk.1)), z_HO386, fun h0_ => absurd ((hoff 30 (by kernel_rfl)).symm.trans h0_) (by decide), fun h0_ => absurd ((hoff 31 (by kernel_rfl)).symm.trans h0_) (by decide)⟩
             refine steps_cons ?_ ?_
             ·rintro b a w' ⟨v354, v385, v388, m31_, ha, Q_BK203, Q_BK204, Q_HB, Q_HO355, Q_HO386, Q_HO389, Q_X31_⟩ hb_ hon hoff
              refine ⟨_, rfl, fun K hK => ?_⟩
              have e101 : a.tmps[101]? = some (.slice (some ad325) l2.length c2) := by rw [ha]; exact (putSel_off rfl).trans rfl
              replace ha := Aside0.mk ha; have BK203 := Aside0.mk Q_BK203; have BK204 := Aside0.mk Q_BK204; have HB := Aside0.mk Q_HB; have hs3_ : w'.cell? ⟨ad325.block, ad325.off + 3, none⟩ = some (.int .i64 (rd l2 3)) := (clA HB.out hw356_0)
              refine value_ (w1 := w') (v := .pointer (some (ad325.add 3))) (by rfl) rfl ?_ ?_
              ·go_simp
               (try simp only [i64_w])
               try rfl
              refine hK.out _ _ ⟨v354, v385, v388, m31_, (by rw [ha.out]; exact putSel_upk 12 hb_ rfl rfl rfl), Q_BK203, Q_BK204, Q_HB, Q_HO355, fun h0_ _ => absurd ((hoff 29 (by kernel_rfl)).symm.trans h0_) (by decide), fun h0_ => absurd ((hoff 30 (by kernel_rfl)).symm.trans h0_) (by decide), fun h0_ => absurd ((hoff 31 (by kernel_rfl)).symm.trans h0_) (by decide)⟩
             refine steps_cons ?_ ?_
             ·rintro b a w' ⟨v354, v385, v388, m31_, ha, Q_BK203, Q_BK204, Q_HB, Q_HO355, Q_HO386, Q_HO389, Q_X31_⟩ hb_ hon hoff
              refine ⟨_, rfl, fun K hK => ?_⟩
              have e102 : a.tmps[102]? = some (.pointer (some (ad325.add 3))) := by rw [ha]; exact putSel_on (e := (16, 102, .pointer (some (ad325.add 3)))) 12 rfl rfl (hon 16 (by kernel_rfl)) rfl
              replace ha := Aside0.mk ha; have BK203 := Aside0.mk Q_BK203; have BK204 := Aside0.mk Q_BK204; have HB := Aside0.mk Q_HB; have hs3_ : w'.cell? ⟨ad325.block, ad325.off + 3, none⟩ = some (.int .i64 (rd l2 3)) := (clA HB.out hw356_0)
              refine value_ (w1 := w') (v := .int .i64 (rd l2 3)) (by rfl) rfl ?_ ?_
              ·go_simp
               (try simp only [i64_w])
               try rfl
              refine hK.out _ _ ⟨v354, v385, v388, m31_, (by rw [ha.out]; exact putSel_upk 13 hb_ rfl rfl rfl), Q_BK203, Q_BK204, Q_HB, Q_HO355, fun h0_ _ => absurd ((hoff 29 (by kernel_rfl)).symm.trans h0_) (by decide), fun h0_ => absurd ((hoff 30 (by kernel_rfl)).symm.trans h0_) (by decide), fun h0_ => absurd ((hoff 31 (by kernel_rfl)).symm.trans h0_) (by decide)⟩
             refine steps_cons ?_ ?_
             ·rintro b a w' ⟨v354, v385, v388, m31_, ha, Q_BK203, Q_BK204, Q_HB, Q_HO355, Q_HO386, Q_HO389, Q_X31_⟩ hb_ hon hoff
              refine ⟨_, rfl, fun K hK => ?_⟩
              have e103 : a.tmps[103]? = some (.int .i64 (rd l2 3)) := by rw [ha]; exact putSel_on (e := (17, 103, .int .i64 (rd l2 3))) 13 rfl rfl (hon 17 (by kernel_rfl)) rfl
              replace ha := Aside0.mk ha; have BK203 := Aside0.mk Q_BK203; have BK204 := Aside0.mk Q_BK204; have HB := Aside0.mk Q_HB
              refine goes_ Try.func91 (by kernel_rfl) rfl #[.int .i64 (rd l2 3)] (by rfl) rfl rfl (by first | (simp only [List.map_toArray, List.map_cons, List.map_nil, Act.eval, Array.getD_eq_getD_getElem?, Option.getD_some, e103]; done) | (simp only [List.map_toArray, List.map_cons, List.map_nil, Act.eval, Array.getD_eq_getD_getElem?, Option.getD_some, e103]; rfl)) ?_
              with_reducible refine (steepleref25_v.calls (rd l2 3) t357 t358 t359 t360 t361 _ A101.out).mono ?_
              rintro e w116 ⟨rfl, hb⟩
              refine ⟨_, rfl, ?_⟩
              have n0_ := Aside0.mk (blk_below (bkA BK203.out) hb); have n1_ := Aside0.mk (blk_below (bkA BK204.out) hb); have n2_ := Aside0.mk (below_step (blA HB.out) hb)
              have z_HO355 := fun (h0_ : b 14 = true) (h1_ : b 30 = false) => (show Kd.R k52 52 w116 w.heap.size (fun k_ => (w.heap.size ≤ k_)) v354 y353 from by first | exact (Kd.R_below (raA (Q_HO355 h0_ h1_)) hb) | exact Kd.R_mono (Kd.R_below (raA (Q_HO355 h0_ h1_)) hb) (fun _ h_ => by first | trivial | exact h_ | exact h_.1))
              clear BK203; clear BK204; clear HB; have BK203 := n0_; have BK204 := n1_; have HB := n2_; clear n0_ n1_ n2_
              (try clear hb)
              refine hK.out _ _ ⟨v354, v385, v388, m31_, (by rw [ha.out]; exact putSel_upk 14 hb_ rfl rfl rfl), (bkA BK203.out), (bkA BK204.out), (blA HB.out), z_HO355, fun h0_ _ => absurd ((hoff 29 (by kernel_rfl)).symm.trans h0_) (by decide), fun h0_ => absurd ((hoff 30 (by kernel_rfl)).symm.trans h0_) (by decide), fun h0_ => absurd ((hoff 31 (by kernel_rfl)).symm.trans h0_) (by decide)⟩
             refine steps_cons ?_ ?_
             ·rintro b a w' ⟨v354, v385, v388, m31_, ha, Q_BK203, Q_BK204, Q_HB, Q_HO355, Q_HO386, Q_HO389, Q_X31_⟩ hb_ hon hoff
              refine ⟨_, rfl, fun K hK => ?_⟩
              have e105 : a.tmps[105]? = some (.slice (some ad325) l2.length c2) := by rw [ha]; exact (putSel_off rfl).trans rfl
              replace ha := Aside0.mk ha; have BK203 := Aside0.mk Q_BK203; have BK204 := Aside0.mk Q_BK204; have HB := Aside0.mk Q_HB; have hs4_ : w'.cell? ⟨ad325.block, ad325.off + 1, none⟩ = some (.int .i64 (rd l2 1)) := (clA HB.out hw362_0)
              refine value_ (w1 := w') (v := .pointer (some (ad325.add 1))) (by rfl) rfl ?_ ?_
              ·go_simp
               (try simp only [i64_w])
               try rfl
              refine hK.out _ _ ⟨v354, v385, v388, m31_, (by rw [ha.out]; exact putSel_upk 15 hb_ rfl rfl rfl), Q_BK203, Q_BK204, Q_HB, Q_HO355, fun h0_ _ => absurd ((hoff 29 (by kernel_rfl)).symm.trans h0_) (by decide), fun h0_ => absurd ((hoff 30 (by kernel_rfl)).symm.trans h0_) (by decide), fun h0_ => absurd ((hoff 31 (by kernel_rfl)).symm.trans h0_) (by decide)⟩
             refine steps_cons ?_ ?_
             ·rintro b a w' ⟨v354, v385, v388, m31_, ha, Q_BK203, Q_BK204, Q_HB, Q_HO355, Q_HO386, Q_HO389, Q_X31_⟩ hb_ hon hoff
              refine ⟨_, rfl, fun K hK => ?_⟩
              have e106 : a.tmps[106]? = some (.pointer (some (ad325.add 1))) := by rw [ha]; exact putSel_on (e := (20, 106, .pointer (some (ad325.add 1)))) 15 rfl rfl (hon 20 (by kernel_rfl)) rfl
              replace ha := Aside0.mk ha; have BK203 := Aside0.mk Q_BK203; have BK204 := Aside0.mk Q_BK204; have HB := Aside0.mk Q_HB; have hs4_ : w'.cell? ⟨ad325.block, ad325.off + 1, none⟩ = some (.int .i64 (rd l2 1)) := (clA HB.out hw362_0)
              refine value_ (w1 := w') (v := .int .i64 (rd l2 1)) (by rfl) rfl ?_ ?_
              ·go_simp
               (try simp only [i64_w])
               try rfl
              refine hK.out _ _ ⟨v354, v385, v388, m31_, (by rw [ha.out]; exact putSel_upk 16 hb_ rfl rfl rfl), Q_BK203, Q_BK204, Q_HB, Q_HO355, fun h0_ _ => absurd ((hoff 29 (by kernel_rfl)).symm.trans h0_) (by decide), fun h0_ => absurd ((hoff 30 (by kernel_rfl)).symm.trans h0_) (by decide), fun h0_ => absurd ((hoff 31 (by kernel_rfl)).symm.trans h0_) (by decide)⟩
             refine steps_cons ?_ ?_
             ·rintro b a w' ⟨v354, v385, v388, m31_, ha, Q_BK203, Q_BK204, Q_HB, Q_HO355, Q_HO386, Q_HO389, Q_X31_⟩ hb_ hon hoff
              refine ⟨_, rfl, fun K hK => ?_⟩
              have e107 : a.tmps[107]? = some (.int .i64 (rd l2 1)) := by rw [ha]; exact putSel_on (e := (21, 107, .int .i64 (rd l2 1))) 16 rfl rfl (hon 21 (by kernel_rfl)) rfl
              replace ha := Aside0.mk ha; have BK203 := Aside0.mk Q_BK203; have BK204 := Aside0.mk Q_BK204; have HB := Aside0.mk Q_HB
              refine goes_ Try.func91 (by kernel_rfl) rfl #[.int .i64 (rd l2 1)] (by rfl) rfl rfl (by first | (simp only [List.map_toArray, List.map_cons, List.map_nil, Act.eval, Array.getD_eq_getD_getElem?, Option.getD_some, e107]; done) | (simp only [List.map_toArray, List.map_cons, List.map_nil, Act.eval, Array.getD_eq_getD_getElem?, Option.getD_some, e107]; rfl)) ?_
              with_reducible refine (steepleref25_v.calls (rd l2 1) t363 t364 t365 t366 t367 _ A102.out).mono ?_
              rintro e w117 ⟨rfl, hb⟩
              refine ⟨_, rfl, ?_⟩
              have n0_ := Aside0.mk (blk_below (bkA BK203.out) hb); have n1_ := Aside0.mk (blk_below (bkA BK204.out) hb); have n2_ := Aside0.mk (below_step (blA HB.out) hb)
              have z_HO355 := fun (h0_ : b 14 = true) (h1_ : b 30 = false) => (show Kd.R k52 52 w117 w.heap.size (fun k_ => (w.heap.size ≤ k_)) v354 y353 from by first | exact (Kd.R_below (raA (Q_HO355 h0_ h1_)) hb) | exact Kd.R_mono (Kd.R_below (raA (Q_HO355 h0_ h1_)) hb) (fun _ h_ => by first | trivial | exact h_ | exact h_.1))
              clear BK203; clear BK204; clear HB; have BK203 := n0_; have BK204 := n1_; have HB := n2_; clear n0_ n1_ n2_
              (try clear hb)
              refine hK.out _ _ ⟨v354, v385, v388, m31_, (by rw [ha.out]; exact putSel_upk 17 hb_ rfl rfl rfl), (bkA BK203.out), (bkA BK204.out), (blA HB.out), z_HO355, fun h0_ _ => absurd ((hoff 29 (by kernel_rfl)).symm.trans h0_) (by decide), fun h0_ => absurd ((hoff 30 (by kernel_rfl)).symm.trans h0_) (by decide), fun h0_ => absurd ((hoff 31 (by kernel_rfl)).symm.trans h0_) (by decide)⟩
             refine steps_cons ?_ ?_
             ·rintro b a w' ⟨v354, v385, v388, m31_, ha, Q_BK203, Q_BK204, Q_HB, Q_HO355, Q_HO386, Q_HO389, Q_X31_⟩ hb_ hon hoff
              refine ⟨_, rfl, fun K hK => ?_⟩
              have e109 : a.tmps[109]? = some (.slice (some ad325) l2.length c2) := by rw [ha]; exact (putSel_off rfl).trans rfl
              replace ha := Aside0.mk ha; have BK203 := Aside0.mk Q_BK203; have BK204 := Aside0.mk Q_BK204; have HB := Aside0.mk Q_HB; have hs5_ : w'.cell? ⟨ad325.block, ad325.off + 2, none⟩ = some (.int .i64 (rd l2 2)) := (clA HB.out hw368_0)
              refine value_ (w1 := w') (v := .pointer (some (ad325.add 2))) (by rfl) rfl ?_ ?_
              ·go_simp
               (try simp only [i64_w])
               try rfl
              refine hK.out _ _ ⟨v354, v385, v388, m31_, (by rw [ha.out]; exact putSel_upk 18 hb_ rfl rfl rfl), Q_BK203, Q_BK204, Q_HB, Q_HO355, fun h0_ _ => absurd ((hoff 29 (by kernel_rfl)).symm.trans h0_) (by decide), fun h0_ => absurd ((hoff 30 (by kernel_rfl)).symm.trans h0_) (by decide), fun h0_ => absurd ((hoff 31 (by kernel_rfl)).symm.trans h0_) (by decide)⟩
             refine steps_cons ?_ ?_
             ·rintro b a w' ⟨v354, v385, v388, m31_, ha, Q_BK203, Q_BK204, Q_HB, Q_HO355, Q_HO386, Q_HO389, Q_X31_⟩ hb_ hon hoff
              refine ⟨_, rfl, fun K hK => ?_⟩
              have e110 : a.tmps[110]? = some (.pointer (some (ad325.add 2))) := by rw [ha]; exact putSel_on (e := (24, 110, .pointer (some (ad325.add 2)))) 18 rfl rfl (hon 24 (by kernel_rfl)) rfl
              replace ha := Aside0.mk ha; have BK203 := Aside0.mk Q_BK203; have BK204 := Aside0.mk Q_BK204; have HB := Aside0.mk Q_HB; have hs5_ : w'.cell? ⟨ad325.block, ad325.off + 2, none⟩ = some (.int .i64 (rd l2 2)) := (clA HB.out hw368_0)
              refine value_ (w1 := w') (v := .int .i64 (rd l2 2)) (by rfl) rfl ?_ ?_
              ·go_simp
               (try simp only [i64_w])
               try rfl
              refine hK.out _ _ ⟨v354, v385, v388, m31_, (by rw [ha.out]; exact putSel_upk 19 hb_ rfl rfl rfl), Q_BK203, Q_BK204, Q_HB, Q_HO355, fun h0_ _ => absurd ((hoff 29 (by kernel_rfl)).symm.trans h0_) (by decide), fun h0_ => absurd ((hoff 30 (by kernel_rfl)).symm.trans h0_) (by decide), fun h0_ => absurd ((hoff 31 (by kernel_rfl)).symm.trans h0_) (by decide)⟩
             refine steps_cons ?_ ?_
             ·rintro b a w' ⟨v354, v385, v388, m31_, ha, Q_BK203, Q_BK204, Q_HB, Q_HO355, Q_HO386, Q_HO389, Q_X31_⟩ hb_ hon hoff
              refine ⟨_, rfl, fun K hK => ?_⟩
              have e111 : a.tmps[111]? = some (.int .i64 (rd l2 2)) := by rw [ha]; exact putSel_on (e := (25, 111, .int .i64 (rd l2 2))) 19 rfl rfl (hon 25 (by kernel_rfl)) rfl
              replace ha := Aside0.mk ha; have BK203 := Aside0.mk Q_BK203; have BK204 := Aside0.mk Q_BK204; have HB := Aside0.mk Q_HB
              refine goes_ Try.func91 (by kernel_rfl) rfl #[.int .i64 (rd l2 2)] (by rfl) rfl rfl (by first | (simp only [List.map_toArray, List.map_cons, List.map_nil, Act.eval, Array.getD_eq_getD_getElem?, Option.getD_some, e111]; done) | (simp only [List.map_toArray, List.map_cons, List.map_nil, Act.eval, Array.getD_eq_getD_getElem?, Option.getD_some, e111]; rfl)) ?_
              with_reducible refine (steepleref25_v.calls (rd l2 2) t369 t370 t371 t372 t373 _ A103.out).mono ?_
              rintro e w118 ⟨rfl, hb⟩
              refine ⟨_, rfl, ?_⟩
              have n0_ := Aside0.mk (blk_below (bkA BK203.out) hb); have n1_ := Aside0.mk (blk_below (bkA BK204.out) hb); have n2_ := Aside0.mk (below_step (blA HB.out) hb)
              have z_HO355 := fun (h0_ : b 14 = true) (h1_ : b 30 = false) => (show Kd.R k52 52 w118 w.heap.size (fun k_ => (w.heap.size ≤ k_)) v354 y353 from by first | exact (Kd.R_below (raA (Q_HO355 h0_ h1_)) hb) | exact Kd.R_mono (Kd.R_below (raA (Q_HO355 h0_ h1_)) hb) (fun _ h_ => by first | trivial | exact h_ | exact h_.1))
              clear BK203; clear BK204; clear HB; have BK203 := n0_; have BK204 := n1_; have HB := n2_; clear n0_ n1_ n2_
              (try clear hb)
              refine hK.out _ _ ⟨v354, v385, v388, m31_, (by rw [ha.out]; exact putSel_upk 20 hb_ rfl rfl rfl), (bkA BK203.out), (bkA BK204.out), (blA HB.out), z_HO355, fun h0_ _ => absurd ((hoff 29 (by kernel_rfl)).symm.trans h0_) (by decide), fun h0_ => absurd ((hoff 30 (by kernel_rfl)).symm.trans h0_) (by decide), fun h0_ => absurd ((hoff 31 (by kernel_rfl)).symm.trans h0_) (by decide)⟩
             refine steps_cons ?_ ?_
             ·rintro b a w' ⟨v354, v385, v388, m31_, ha, Q_BK203, Q_BK204, Q_HB, Q_HO355, Q_HO386, Q_HO389, Q_X31_⟩ hb_ hon hoff
              refine ⟨_, rfl, fun K hK => ?_⟩
              replace ha := Aside0.mk ha; have BK203 := Aside0.mk Q_BK203; have BK204 := Aside0.mk Q_BK204; have HB := Aside0.mk Q_HB
              refine goes_ Try.func93 (by kernel_rfl) rfl #[.int .i64 1, .int .i64 2] (by rfl) rfl rfl (by first | (simp only [List.map_toArray, List.map_cons, List.map_nil, Act.eval, Array.getD_eq_getD_getElem?, Option.getD_some]; done) | (simp only [List.map_toArray, List.map_cons, List.map_nil, Act.eval, Array.getD_eq_getD_getElem?, Option.getD_some]; rfl)) ?_
              with_reducible refine (steepleref25_times.calls 1 2 t374 t375 t376 t377 t378 _ A104.out).mono ?_
              rintro e w119 ⟨rfl, hb⟩
              refine ⟨_, rfl, ?_⟩
              have n0_ := Aside0.mk (blk_below (bkA BK203.out) hb); have n1_ := Aside0.mk (blk_below (bkA BK204.out) hb); have n2_ := Aside0.mk (below_step (blA HB.out) hb)
              have z_HO355 := fun (h0_ : b 14 = true) (h1_ : b 30 = false) => (show Kd.R k52 52 w119 w.heap.size (fun k_ => (w.heap.size ≤ k_)) v354 y353 from by first | exact (Kd.R_below (raA (Q_HO355 h0_ h1_)) hb) | exact Kd.R_mono (Kd.R_below (raA (Q_HO355 h0_ h1_)) hb) (fun _ h_ => by first | trivial | exact h_ | exact h_.1))
              clear BK203; clear BK204; clear HB; have BK203 := n0_; have BK204 := n1_; have HB := n2_; clear n0_ n1_ n2_
              (try clear hb)
              refine hK.out _ _ ⟨v354, v385, v388, m31_, (by rw [ha.out]; exact putSel_upk 21 hb_ rfl rfl rfl), (bkA BK203.out), (bkA BK204.out), (blA HB.out), z_HO355, fun h0_ _ => absurd ((hoff 29 (by kernel_rfl)).symm.trans h0_) (by decide), fun h0_ => absurd ((hoff 30 (by kernel_rfl)).symm.trans h0_) (by decide), fun h0_ => absurd ((hoff 31 (by kernel_rfl)).symm.trans h0_) (by decide)⟩
             refine steps_cons ?_ ?_
             ·rintro b a w' ⟨v354, v385, v388, m31_, ha, Q_BK203, Q_BK204, Q_HB, Q_HO355, Q_HO386, Q_HO389, Q_X31_⟩ hb_ hon hoff
              refine ⟨_, rfl, fun K hK => ?_⟩
              replace ha := Aside0.mk ha; have BK203 := Aside0.mk Q_BK203; have BK204 := Aside0.mk Q_BK204; have HB := Aside0.mk Q_HB
              refine goes_ Try.func92 (by kernel_rfl) rfl #[.int .i64 0, .int .i64 3] (by rfl) rfl rfl (by first | (simp only [List.map_toArray, List.map_cons, List.map_nil, Act.eval, Array.getD_eq_getD_getElem?, Option.getD_some]; done) | (simp only [List.map_toArray, List.map_cons, List.map_nil, Act.eval, Array.getD_eq_getD_getElem?, Option.getD_some]; rfl)) ?_
              with_reducible refine (steepleref25_plus.calls 0 3 t379 t380 t381 t382 t383 _ A105.out).mono ?_
              rintro e w120 ⟨rfl, hb⟩
              refine ⟨_, rfl, ?_⟩
              have n0_ := Aside0.mk (blk_below (bkA BK203.out) hb); have n1_ := Aside0.mk (blk_below (bkA BK204.out) hb); have n2_ := Aside0.mk (below_step (blA HB.out) hb)
              have z_HO355 := fun (h0_ : b 14 = true) (h1_ : b 30 = false) => (show Kd.R k52 52 w120 w.heap.size (fun k_ => (w.heap.size ≤ k_)) v354 y353 from by first | exact (Kd.R_below (raA (Q_HO355 h0_ h1_)) hb) | exact Kd.R_mono (Kd.R_below (raA (Q_HO355 h0_ h1_)) hb) (fun _ h_ => by first | trivial | exact h_ | exact h_.1))
              clear BK203; clear BK204; clear HB; have BK203 := n0_; have BK204 := n1_; have HB := n2_; clear n0_ n1_ n2_
              (try clear hb)
              refine hK.out _ _ ⟨v354, v385, v388, m31_, (by rw [ha.out]; exact putSel_upk 22 hb_ rfl rfl rfl), (bkA BK203.out), (bkA BK204.out), (blA HB.out), z_HO355, fun h0_ _ => absurd ((hoff 29 (by kernel_rfl)).symm.trans h0_) (by decide), fun h0_ => absurd ((hoff 30 (by kernel_rfl)).symm.trans h0_) (by decide), fun h0_ => absurd ((hoff 31 (by kernel_rfl)).symm.trans h0_) (by decide)⟩
             refine steps_cons ?_ ?_
             ·rintro b a w' ⟨v354, v385, v388, m31_, ha, Q_BK203, Q_BK204, Q_HB, Q_HO355, Q_HO386, Q_HO389, Q_X31_⟩ hb_ hon hoff
              refine ⟨_, rfl, fun K hK => ?_⟩
              have e104 : a.tmps[104]? = some (.agg #[.int .i64 t357, .int .i64 t358, .int .i64 t359, .int .u64 t360, .int .u64 t361]) := by rw [ha]; exact putSel_on (e := (18, 104, .agg #[.int .i64 t357, .int .i64 t358, .int .i64 t359, .int .u64 t360, .int .u64 t361])) 14 rfl rfl (hon 18 (by kernel_rfl)) rfl
              have e108 : a.tmps[108]? = some (.agg #[.int .i64 t363, .int .i64 t364, .int .i64 t365, .int .u64 t366, .int .u64 t367]) := by rw [ha]; exact putSel_on (e := (22, 108, .agg #[.int .i64 t363, .int .i64 t364, .int .i64 t365, .int .u64 t366, .int .u64 t367])) 17 rfl rfl (hon 22 (by kernel_rfl)) rfl
              have e112 : a.tmps[112]? = some (.agg #[.int .i64 t369, .int .i64 t370, .int .i64 t371, .int .u64 t372, .int .u64 t373]) := by rw [ha]; exact putSel_on (e := (26, 112, .agg #[.int .i64 t369, .int .i64 t370, .int .i64 t371, .int .u64 t372, .int .u64 t373])) 20 rfl rfl (hon 26 (by kernel_rfl)) rfl
              have e113 : a.tmps[113]? = some (.agg #[.int .i64 t374, .int .i64 t375, .int .i64 t376, .int .u64 t377, .int .u64 t378]) := by rw [ha]; exact putSel_on (e := (27, 113, .agg #[.int .i64 t374, .int .i64 t375, .int .i64 t376, .int .u64 t377, .int .u64 t378])) 21 rfl rfl (hon 27 (by kernel_rfl)) rfl
              have e114 : a.tmps[114]? = some (.agg #[.int .i64 t379, .int .i64 t380, .int .i64 t381, .int .u64 t382, .int .u64 t383]) := by rw [ha]; exact putSel_on (e := (28, 114, .agg #[.int .i64 t379, .int .i64 t380, .int .i64 t381, .int .u64 t382, .int .u64 t383])) 22 rfl rfl (hon 28 (by kernel_rfl)) rfl
              replace ha := Aside0.mk ha; have BK203 := Aside0.mk Q_BK203; have BK204 := Aside0.mk Q_BK204; have HB := Aside0.mk Q_HB
              refine Kd.R_lit_step k52 _ 52 ?hg (N := 115) ?hd (xs := ([(⟨t357, t358, t359, (⟨t360, t361⟩ : S45)⟩ : S52), (⟨t363, t364, t365, (⟨t366, t367⟩ : S45)⟩ : S52), (⟨t369, t370, t371, (⟨t372, t373⟩ : S45)⟩ : S52), (⟨t374, t375, t376, (⟨t377, t378⟩ : S45)⟩ : S52), (⟨t379, t380, t381, (⟨t382, t383⟩ : S45)⟩ : S52)] : List (S52))) (inner := [.int .i64 t357, .int .i64 t358, .int .i64 t359, .int .u64 t360, .int .u64 t361, .int .i64 t363, .int .i64 t364, .int .i64 t365, .int .u64 t366, .int .u64 t367, .int .i64 t369, .int .i64 t370, .int .i64 t371, .int .u64 t372, .int .u64 t373, .int .i64 t374, .int .i64 t375, .int .i64 t376, .int .u64 t377, .int .u64 t378, .int .i64 t379, .int .i64 t380, .int .i64 t381, .int .u64 t382, .int .u64 t383]) (ok := fun _ => True) (okp := fun _ => True) ?hr ?hp (fun _ hk => hk) trivial (Below.refl _ _) (Nat.le_refl _) (by simp) ?_; (case hd => rfl); (case hg => rfl); (case hr => first | (go_simp; done) | (go_simp; rfl)); (case hp => exact (Reps.c5 (show Kd.M k52 _ _ _ (⟨t357, t358, t359, (⟨t360, t361⟩ : S45)⟩ : S52) [.int .i64 t357, .int .i64 t358, .int .i64 t359, .int .u64 t360, .int .u64 t361] from (k52_mkM _ _ _ (⟨t357, t358, t359, (⟨t360, t361⟩ : S45)⟩ : S52) )) (Reps.c5 (show Kd.M k52 _ _ _ (⟨t363, t364, t365, (⟨t366, t367⟩ : S45)⟩ : S52) [.int .i64 t363, .int .i64 t364, .int .i64 t365, .int .u64 t366, .int .u64 t367] from (k52_mkM _ _ _ (⟨t363, t364, t365, (⟨t366, t367⟩ : S45)⟩ : S52) )) (Reps.c5 (show Kd.M k52 _ _ _ (⟨t369, t370, t371, (⟨t372, t373⟩ : S45)⟩ : S52) [.int .i64 t369, .int .i64 t370, .int .i64 t371, .int .u64 t372, .int .u64 t373] from (k52_mkM _ _ _ (⟨t369, t370, t371, (⟨t372, t373⟩ : S45)⟩ : S52) )) (Reps.c5 (show Kd.M k52 _ _ _ (⟨t374, t375, t376, (⟨t377, t378⟩ : S45)⟩ : S52) [.int .i64 t374, .int .i64 t375, .int .i64 t376, .int .u64 t377, .int .u64 t378] from (k52_mkM _ _ _ (⟨t374, t375, t376, (⟨t377, t378⟩ : S45)⟩ : S52) )) (Reps.c5 (show Kd.M k52 _ _ _ (⟨t379, t380, t381, (⟨t382, t383⟩ : S45)⟩ : S52) [.int .i64 t379, .int .i64 t380, .int .i64 t381, .int .u64 t382, .int .u64 t383] from (k52_mkM _ _ _ (⟨t379, t380, t381, (⟨t382, t383⟩ : S45)⟩ : S52) )) (Reps.none _ _)))))))
              intro v385 w121 ho122 hb hg_ hnew_
              clear hg_ hnew_
              (first | rw [← Ny384.out] at ho122 | (simp only [Int.reduceToNat] at ho122; rw [← Ny384.out] at ho122))
              have n0_ := Aside0.mk (Kd.R_lower (Kd.R_newM (M := fun k_ => (w.heap.size ≤ k_)) ho122 (below_size (blA HB.out)) (fun k_ h_ => h_)) (below_size (blA HB.out)))
              have n1_ := Aside0.mk (blk_below (bkA BK203.out) hb); have n2_ := Aside0.mk (blk_below (bkA BK204.out) hb); have n3_ := Aside0.mk (below_step (blA HB.out) hb)
              have z_HO355 := fun (h0_ : b 14 = true) (h1_ : b 30 = false) => (show Kd.R k52 52 w121 w.heap.size (fun k_ => (w.heap.size ≤ k_)) v354 y353 from by first | exact (Kd.R_elder' (raA (Q_HO355 h0_ h1_)) (Kd.R_base ho122) hb) | exact Kd.R_mono (Kd.R_elder' (raA (Q_HO355 h0_ h1_)) (Kd.R_base ho122) hb) (fun _ h_ => by first | trivial | exact h_ | exact h_.1))
              clear BK203; clear BK204; clear HB; have HO386 := n0_; have BK203 := n1_; have BK204 := n2_; have HB := n3_; clear n0_ n1_ n2_ n3_; clear hb ho122
              refine hK.out _ _ ⟨v354, v385, v388, m31_, (by rw [ha.out]; exact putSel_upk 23 hb_ rfl rfl rfl), (bkA BK203.out), (bkA BK204.out), (blA HB.out), z_HO355, fun _ _ => (by (with_reducible repeat (first | apply Kd.R_alloc | apply Kd.R_drewN | apply Kd.R_drew)); exact Kd.R_mono HO386.out (fun _ hk => hk.1)), fun h0_ => absurd ((hoff 30 (by kernel_rfl)).symm.trans h0_) (by decide), fun h0_ => absurd ((hoff 31 (by kernel_rfl)).symm.trans h0_) (by decide)⟩
             refine steps_cons ?_ ?_
             ·rintro b a w' ⟨v354, v385, v388, m31_, ha, Q_BK203, Q_BK204, Q_HB, Q_HO355, Q_HO386, Q_HO389, Q_X31_⟩ hb_ hon hoff
              refine ⟨_, rfl, fun K hK => ?_⟩
              have e100 : a.tmps[100]? = some (v354) := by rw [ha]; exact putSel_on (e := (14, 100, v354)) 11 rfl rfl (hon 14 (by kernel_rfl)) rfl
              have e115 : a.tmps[115]? = some (v385) := by rw [ha]; exact putSel_on (e := (29, 115, v385)) 23 rfl rfl (hon 29 (by kernel_rfl)) rfl
              replace ha := Aside0.mk ha; have BK203 := Aside0.mk Q_BK203; have BK204 := Aside0.mk Q_BK204; have HB := Aside0.mk Q_HB
              have HO355 := Aside0.mk (Q_HO355 (hon 14 (by kernel_rfl)) hb_)
              have HO386 := Aside0.mk (Q_HO386 (hon 29 (by kernel_rfl)) hb_)
              obtain ⟨Ao125, co125, eo125⟩ := Kd.R_slice HO355.out
              (first | subst eo125 | (injection eo125 with f1_ f2_ f3_; have f4_ := f1_.symm; have f5_ := f3_.symm; clear f1_ f2_ f3_; subst f4_; subst f5_))
              obtain ⟨Ao126, co126, eo126⟩ := Kd.R_slice HO386.out
              (first | subst eo126 | (injection eo126 with f1_ f2_ f3_; have f4_ := f1_.symm; have f5_ := f3_.symm; clear f1_ f2_ f3_; subst f4_; subst f5_))
              refine Kd.N_lit_step (Kd.slice 52 k52) _ 48 ?hg (N' := 116) ?hd (xs := ([y353, y384] : List (List (S52)))) (inner := [.slice Ao125 y353.length co125, .slice Ao126 y384.length co126]) (ok := (fun k_ => (w.heap.size ≤ k_) ∧ k_ ≠ gb203 ∧ k_ ≠ gb204)) (okp := (fun k_ => (w.heap.size ≤ k_) ∧ k_ ≠ gb203 ∧ k_ ≠ gb204)) ?hr ?hp (fun _ hk => hk) ((show ∀ k_, w'.heap.size ≤ k_ → (fun k_ => (w.heap.size ≤ k_) ∧ k_ ≠ gb203 ∧ k_ ≠ gb204) k_ from fun k_ hk => ⟨(Nat.le_trans (below_size (blA HB.out)) hk), Kd.freshB (bkA BK203.out) k_ hk, Kd.freshB (bkA BK204.out) k_ hk⟩) _ (Nat.le_refl _)) (Below.refl _ _) (Nat.le_refl _) (by simp) ?_; (case hd => rfl); (case hg => rfl); (case hr => first | (go_simp; done) | (go_simp; rfl)); (case hp => exact (Reps.one (show Kd.FK (Kd.slice 52 k52) _ _ y353 [.slice Ao125 y353.length co125] from (Kd.FK_slice_mk (Kd.R_reads' (Kd.R_mono (ok' := (fun k_ => (w.heap.size ≤ k_) ∧ k_ ≠ gb203 ∧ k_ ≠ gb204)) (Kd.R_types (Kd.R_types (HO355.out) BK203.out (by decide)) BK204.out (by decide)) (fun k_ hk => by first | exact ⟨hk.1.1.1, ⟨hk.1.2, hk.2⟩⟩ | exact ⟨hk.1.1, ⟨hk.1.2, hk.2⟩⟩))).2.1 (Kd.R_F (Kd.R_mono (ok' := (fun k_ => (w.heap.size ≤ k_) ∧ k_ ≠ gb203 ∧ k_ ≠ gb204)) (Kd.R_types (Kd.R_types (HO355.out) BK203.out (by decide)) BK204.out (by decide)) (fun k_ hk => by first | exact ⟨hk.1.1.1, ⟨hk.1.2, hk.2⟩⟩ | exact ⟨hk.1.1, ⟨hk.1.2, hk.2⟩⟩))))) (Reps.one (show Kd.FK (Kd.slice 52 k52) _ _ y384 [.slice Ao126 y384.length co126] from (Kd.FK_slice_mk (Kd.R_reads' (Kd.R_mono (ok' := (fun k_ => (w.heap.size ≤ k_) ∧ k_ ≠ gb203 ∧ k_ ≠ gb204)) (Kd.R_types (Kd.R_types (HO386.out) BK203.out (by decide)) BK204.out (by decide)) (fun k_ hk => by first | exact ⟨hk.1.1.1, ⟨hk.1.2, hk.2⟩⟩ | exact ⟨hk.1.1, ⟨hk.1.2, hk.2⟩⟩))).2.1 (Kd.R_F (Kd.R_mono (ok' := (fun k_ => (w.heap.size ≤ k_) ∧ k_ ≠ gb203 ∧ k_ ≠ gb204)) (Kd.R_types (Kd.R_types (HO386.out) BK203.out (by decide)) BK204.out (by decide)) (fun k_ hk => by first | exact ⟨hk.1.1.1, ⟨hk.1.2, hk.2⟩⟩ | exact ⟨hk.1.1, ⟨hk.1.2, hk.2⟩⟩))))) (Reps.none _ _))))
              intro v388 w127 ho128 hb hg_ hnew_
              clear hg_ hnew_
              (first | rw [← Ny387.out] at ho128 | (simp only [Int.reduceToNat] at ho128; rw [← Ny387.out] at ho128))
              have n0_ := Aside0.mk (Kd.N_lower ho128 (below_size (blA HB.out))); have n1_ := Aside0.mk (blk_below (bkA BK203.out) hb); have n2_ := Aside0.mk (blk_below (bkA BK204.out) hb); have n3_ := Aside0.mk (below_step (blA HB.out) hb); clear BK203; clear BK204; clear HB; clear HO355; clear HO386; have HO389 := n0_; have BK203 := n1_; have BK204 := n2_; have HB := n3_; clear n0_ n1_ n2_ n3_; clear hb ho128
              refine hK.out _ _ ⟨.slice Ao125 y353.length co125, .slice Ao126 y384.length co126, v388, m31_, (by rw [ha.out]; exact putSel_upk 24 hb_ rfl rfl rfl), (bkA BK203.out), (bkA BK204.out), (blA HB.out), fun _ h1_ => absurd ((up_self b 30).symm.trans h1_) (by decide), fun _ h1_ => absurd ((up_self b 30).symm.trans h1_) (by decide), fun _ => (naA HO389.out), fun h0_ => absurd ((hoff 31 (by kernel_rfl)).symm.trans h0_) (by decide)⟩
             refine steps_cons ?_ ?_
             ·rintro b a w' ⟨v354, v385, v388, m31_, ha, Q_BK203, Q_BK204, Q_HB, Q_HO355, Q_HO386, Q_HO389, Q_X31_⟩ hb_ hon hoff
              refine ⟨_, rfl, fun K hK => ?_⟩
              have e116 : a.tmps[116]? = some (v388) := by rw [ha]; exact putSel_on (e := (30, 116, v388)) 24 rfl rfl (hon 30 (by kernel_rfl)) rfl
              replace ha := Aside0.mk ha; have BK203 := Aside0.mk Q_BK203; have BK204 := Aside0.mk Q_BK204; have HB := Aside0.mk Q_HB
              have HO389 := Aside0.mk (Q_HO389 (hon 30 (by kernel_rfl)))
              refine value_ (w1 := w') (v := v388) (by rfl) rfl ?_ ?_
              ·go_simp
               (try simp only [i64_w])
               try rfl
              refine hK.out _ _ ⟨v354, v385, v388, (v388), (by rw [ha.out]; exact putSel_upk 25 hb_ rfl rfl rfl), Q_BK203, Q_BK204, Q_HB, fun _ h1_ => absurd ((hon 30 (by kernel_rfl)).symm.trans h1_) (by decide), fun _ h1_ => absurd ((hon 30 (by kernel_rfl)).symm.trans h1_) (by decide), Q_HO389, fun _ => rfl⟩
             exact steps_nil
            rintro b a w128 hall ⟨v354, v385, v388, m31_, ha, Q_BK203, Q_BK204, Q_HB, Q_HO355, Q_HO386, Q_HO389, Q_X31_⟩
            clear BK203 BK204 HB
            have hb1_ := hall 1 (by kernel_rfl)
            have hb2_ := hall 2 (by kernel_rfl)
            have hb3_ := hall 3 (by kernel_rfl)
            have hb5_ := hall 5 (by kernel_rfl)
            have hb6_ := hall 6 (by kernel_rfl)
            have hb7_ := hall 7 (by kernel_rfl)
            have hb8_ := hall 8 (by kernel_rfl)
            have hb10_ := hall 10 (by kernel_rfl)
            have hb11_ := hall 11 (by kernel_rfl)
            have hb12_ := hall 12 (by kernel_rfl)
            have hb13_ := hall 13 (by kernel_rfl)
            have hb14_ := hall 14 (by kernel_rfl)
            have hb16_ := hall 16 (by kernel_rfl)
            have hb17_ := hall 17 (by kernel_rfl)
            have hb18_ := hall 18 (by kernel_rfl)
            have hb20_ := hall 20 (by kernel_rfl)
            have hb21_ := hall 21 (by kernel_rfl)
            have hb22_ := hall 22 (by kernel_rfl)
            have hb24_ := hall 24 (by kernel_rfl)
            have hb25_ := hall 25 (by kernel_rfl)
            have hb26_ := hall 26 (by kernel_rfl)
            have hb27_ := hall 27 (by kernel_rfl)
            have hb28_ := hall 28 (by kernel_rfl)
            have hb29_ := hall 29 (by kernel_rfl)
            have hb30_ := hall 30 (by kernel_rfl)
            have hb31_ := hall 31 (by kernel_rfl)
            subst ha; obtain rfl := Q_X31_ hb31_
            simp only [putSel, hb1_, hb2_, hb3_, hb5_, hb6_, hb7_, hb8_, hb10_, hb11_, hb12_, hb13_, hb14_, hb16_, hb17_, hb18_, hb20_, hb21_, hb22_, hb24_, hb25_, hb26_, hb27_, hb28_, hb29_, hb30_, hb31_, if_true, Act.put, List.setIfInBounds_toArray, List.set_cons_zero, List.set_cons_succ]
            have BK203 := Aside0.mk Q_BK203; clear Q_BK203; have BK204 := Aside0.mk Q_BK204; clear Q_BK204; have HB := Aside0.mk Q_HB; clear Q_HB; clear Q_HO355; clear Q_HO386; have HO389 := Aside0.mk (Q_HO389 hb30_); clear Q_HO389; clear hall hb1_ hb2_ hb3_ hb5_ hb6_ hb7_ hb8_ hb10_ hb11_ hb12_ hb13_ hb14_ hb16_ hb17_ hb18_ hb20_ hb21_ hb22_ hb24_ hb25_ hb26_ hb27_ hb28_ hb29_ hb30_ hb31_
            try go_wp2
            go_ret
            exact ⟨_, by first | rfl | (simp [errW_none, errW_some] <;> rfl) | (simp [*, errW_none, errW_some] <;> rfl), by (with_reducible repeat (first | apply Kd.N_alloc | apply Kd.N_drewN | apply Kd.N_drew)); exact Kd.N_mono HO389.out (fun _ hk => hk.1), blA HB.out⟩
           ·rw [if_neg c100] at H
            exact absurd H (by simp)
          ·rw [if_neg c97] at H
           exact absurd H (by simp)
         ·rw [if_neg c94] at H
          exact absurd H (by simp)
        ·rw [if_neg c92] at H
         exact absurd H (by simp)
       ·rw [if_neg c91] at H
        have c91b0 : (a0_0 == 0) = false := beq_eq_false_iff_ne.mpr c91; have c91b1 : (a0_0 != 0) = true := bne_iff_ne.mpr c91
        by_cases c129 : 0 < (l2.length : Int)
        ·rw [if_pos c129] at H
         have c129b0 : decide (0 < (l2.length : Int)) = true := decide_eq_true c129
         have c129b1 : decide (0 < l2.length) = true := decide_eq_true (by omega)
         clear c129; replace H := Option.bind_eq_some_iff.mp H
         obtain ⟨⟨t391, t392, t393, t394, t395⟩, A1300, H⟩ := H
         (try dsimp only at H)
         have A130 := Aside0.mk A1300; clear A1300
         by_cases c131 : 1 < (l2.length : Int)
         ·rw [if_pos c131] at H
          have c131b0 : decide (1 < (l2.length : Int)) = true := decide_eq_true c131
          have c131b1 : decide (1 < l2.length) = true := decide_eq_true (by omega)
          clear c131; replace H := Option.bind_eq_some_iff.mp H
          obtain ⟨⟨t397, t398, t399, t400, t401⟩, A1320, H⟩ := H
          (try dsimp only at H)
          have A132 := Aside0.mk A1320; clear A1320; replace H := Option.bind_eq_some_iff.mp H
          obtain ⟨⟨t402, t403, t404, t405, t406⟩, A1330, H⟩ := H
          (try dsimp only at H)
          have A133 := Aside0.mk A1330; clear A1330
          by_cases c134 : 2 < (l2.length : Int)
          ·rw [if_pos c134] at H
           have c134b0 : decide (2 < (l2.length : Int)) = true := decide_eq_true c134
           have c134b1 : decide (2 < l2.length) = true := decide_eq_true (by omega)
           clear c134; replace H := Option.bind_eq_some_iff.mp H
           obtain ⟨⟨t408, t409, t410, t411, t412⟩, A1350, H⟩ := H
           (try dsimp only at H)
           have A135 := Aside0.mk A1350; clear A1350; replace H := Option.bind_eq_some_iff.mp H
           obtain ⟨⟨t413, t414, t415, t416, t417⟩, A1360, H⟩ := H
           (try dsimp only at H)
           have A136 := Aside0.mk A1360; clear A1360
           by_cases c137 : 4 < (l2.length : Int)
           ·rw [if_pos c137] at H
            have c137b0 : decide (4 < (l2.length : Int)) = true := decide_eq_true c137
            have c137b1 : decide (4 < l2.length) = true := decide_eq_true (by omega)
            clear c137; replace H := Option.bind_eq_some_iff.mp H
            obtain ⟨⟨t419, t420, t421, t422, t423⟩, A1380, H⟩ := H
            (try dsimp only at H)
            have A138 := Aside0.mk A1380; clear A1380; replace H := Option.bind_eq_some_iff.mp H
            obtain ⟨⟨t424, t425, t426, t427, t428⟩, A1390, H⟩ := H
            (try dsimp only at H)
            have A139 := Aside0.mk A1390; clear A1390
            obtain ⟨y429, hy429⟩ : ∃ y_ : List (S52), y_ = (([(⟨t391, t392, t393, (⟨t394, t395⟩ : S45)⟩ : S52), (⟨t397, t398, t399, (⟨t400, t401⟩ : S45)⟩ : S52), (⟨t402, t403, t404, (⟨t405, t406⟩ : S45)⟩ : S52), (⟨t408, t409, t410, (⟨t411, t412⟩ : S45)⟩ : S52), (⟨t413, t414, t415, (⟨t416, t417⟩ : S45)⟩ : S52), (⟨t419, t420, t421, (⟨t422, t423⟩ : S45)⟩ : S52), (⟨t424, t425, t426, (⟨t427, t428⟩ : S45)⟩ : S52)] : List (S52))) := ⟨_, rfl⟩
            replace H : (if 3 < (l2.length : Int) then ((steepleref25_v.f (rd l2 3)).bind fun bt433 => ((steepleref25_v.f (rd l2 1)).bind fun bt439 => ((steepleref25_v.f (rd l2 2)).bind fun bt445 => ((steepleref25_times.f 1 2).bind fun bt450 => ((steepleref25_plus.f 0 3).bind fun bt455 => ((steepleref25_v.f (rd l2 4)).bind fun bt461 => ((steepleref25_v.f (rd l2 1)).bind fun bt467 => ((steepleref25_v.f (rd l2 2)).bind fun bt473 => ((steepleref25_plus.f 6 7).bind fun bt478 => ((steepleref25_times.f 5 8).bind fun bt483 => ((steepleref25_plus.f 4 9).bind fun bt488 => (some (([y429, (([(⟨bt433.1, bt433.2.1, bt433.2.2.1, (⟨bt433.2.2.2.1, bt433.2.2.2.2⟩ : S45)⟩ : S52), (⟨bt439.1, bt439.2.1, bt439.2.2.1, (⟨bt439.2.2.2.1, bt439.2.2.2.2⟩ : S45)⟩ : S52), (⟨bt445.1, bt445.2.1, bt445.2.2.1, (⟨bt445.2.2.2.1, bt445.2.2.2.2⟩ : S45)⟩ : S52), (⟨bt450.1, bt450.2.1, bt450.2.2.1, (⟨bt450.2.2.2.1, bt450.2.2.2.2⟩ : S45)⟩ : S52), (⟨bt455.1, bt455.2.1, bt455.2.2.1, (⟨bt455.2.2.2.1, bt455.2.2.2.2⟩ : S45)⟩ : S52), (⟨bt461.1, bt461.2.1, bt461.2.2.1, (⟨bt461.2.2.2.1, bt461.2.2.2.2⟩ : S45)⟩ : S52), (⟨bt467.1, bt467.2.1, bt467.2.2.1, (⟨bt467.2.2.2.1, bt467.2.2.2.2⟩ : S45)⟩ : S52), (⟨bt473.1, bt473.2.1, bt473.2.2.1, (⟨bt473.2.2.2.1, bt473.2.2.2.2⟩ : S45)⟩ : S52), (⟨bt478.1, bt478.2.1, bt478.2.2.1, (⟨bt478.2.2.2.1, bt478.2.2.2.2⟩ : S45)⟩ : S52), (⟨bt483.1, bt483.2.1, bt483.2.2.1, (⟨bt483.2.2.2.1, bt483.2.2.2.2⟩ : S45)⟩ : S52), (⟨bt488.1, bt488.2.1, bt488.2.2.1, (⟨bt488.2.2.2.1, bt488.2.2.2.2⟩ : S45)⟩ : S52)] : List (S52)))] : List (List (S52)))))))))))))))) else (none)) = some r := by first | (rw [hy429]; with_reducible exact H) | (have H2_ := (Option.bind_some _ _).symm.trans H; rw [hy429]; with_reducible exact H2_) | (have H2_ := (Option.bind_some _ _).symm.trans H; with_reducible exact H2_) | with_reducible exact H | (rw [hy429]; exact H) | exact H
            have Ny429 := Aside0.mk hy429; clear hy429
            by_cases c140 : 3 < (l2.length : Int)
            ·rw [if_pos c140] at H
             have c140b0 : decide (3 < (l2.length : Int)) = true := decide_eq_true c140
             have c140b1 : decide (3 < l2.length) = true := decide_eq_true (by omega)
             clear c140; replace H := Option.bind_eq_some_iff.mp H
             obtain ⟨⟨t433, t434, t435, t436, t437⟩, A1410, H⟩ := H
             (try dsimp only at H)
             have A141 := Aside0.mk A1410; clear A1410; replace H := Option.bind_eq_some_iff.mp H
             obtain ⟨⟨t439, t440, t441, t442, t443⟩, A1420, H⟩ := H
             (try dsimp only at H)
             have A142 := Aside0.mk A1420; clear A1420; replace H := Option.bind_eq_some_iff.mp H
             obtain ⟨⟨t445, t446, t447, t448, t449⟩, A1430, H⟩ := H
             (try dsimp only at H)
             have A143 := Aside0.mk A1430; clear A1430; replace H := Option.bind_eq_some_iff.mp H
             obtain ⟨⟨t450, t451, t452, t453, t454⟩, A1440, H⟩ := H
             (try dsimp only at H)
             have A144 := Aside0.mk A1440; clear A1440; replace H := Option.bind_eq_some_iff.mp H
             obtain ⟨⟨t455, t456, t457, t458, t459⟩, A1450, H⟩ := H
             (try dsimp only at H)
             have A145 := Aside0.mk A1450; clear A1450; replace H := Option.bind_eq_some_iff.mp H
             obtain ⟨⟨t461, t462, t463, t464, t465⟩, A1460, H⟩ := H
             (try dsimp only at H)
             have A146 := Aside0.mk A1460; clear A1460; replace H := Option.bind_eq_some_iff.mp H
             obtain ⟨⟨t467, t468, t469, t470, t471⟩, A1470, H⟩ := H
             (try dsimp only at H)
             have A147 := Aside0.mk A1470; clear A1470; replace H := Option.bind_eq_some_iff.mp H
             obtain ⟨⟨t473, t474, t475, t476, t477⟩, A1480, H⟩ := H
             (try dsimp only at H)
             have A148 := Aside0.mk A1480; clear A1480; replace H := Option.bind_eq_some_iff.mp H
             obtain ⟨⟨t478, t479, t480, t481, t482⟩, A1490, H⟩ := H
             (try dsimp only at H)
             have A149 := Aside0.mk A1490; clear A1490; replace H := Option.bind_eq_some_iff.mp H
             obtain ⟨⟨t483, t484, t485, t486, t487⟩, A1500, H⟩ := H
             (try dsimp only at H)
             have A150 := Aside0.mk A1500; clear A1500; replace H := Option.bind_eq_some_iff.mp H
             obtain ⟨⟨t488, t489, t490, t491, t492⟩, A1510, H⟩ := H
             (try dsimp only at H); have A151 := Aside0.mk A1510; clear A1510
             obtain ⟨y493, hy493⟩ : ∃ y_ : List (S52), y_ = (([(⟨t433, t434, t435, (⟨t436, t437⟩ : S45)⟩ : S52), (⟨t439, t440, t441, (⟨t442, t443⟩ : S45)⟩ : S52), (⟨t445, t446, t447, (⟨t448, t449⟩ : S45)⟩ : S52), (⟨t450, t451, t452, (⟨t453, t454⟩ : S45)⟩ : S52), (⟨t455, t456, t457, (⟨t458, t459⟩ : S45)⟩ : S52), (⟨t461, t462, t463, (⟨t464, t465⟩ : S45)⟩ : S52), (⟨t467, t468, t469, (⟨t470, t471⟩ : S45)⟩ : S52), (⟨t473, t474, t475, (⟨t476, t477⟩ : S45)⟩ : S52), (⟨t478, t479, t480, (⟨t481, t482⟩ : S45)⟩ : S52), (⟨t483, t484, t485, (⟨t486, t487⟩ : S45)⟩ : S52), (⟨t488, t489, t490, (⟨t491, t492⟩ : S45)⟩ : S52)] : List (S52))) := ⟨_, rfl⟩
             replace H : (some (([y429, y493] : List (List (S52))))) = some r := by first | (rw [hy493]; with_reducible exact H) | (have H2_ := (Option.bind_some _ _).symm.trans H; rw [hy493]; with_reducible exact H2_) | (have H2_ := (Option.bind_some _ _).symm.trans H; with_reducible exact H2_) | with_reducible exact H | (rw [hy493]; exact H) | exact H
             have Ny493 := Aside0.mk hy493; clear hy493
             obtain ⟨y496, hy496⟩ : ∃ y_ : List (List (S52)), y_ = (([y429, y493] : List (List (S52)))) := ⟨_, rfl⟩
             replace H : (some y496) = some r := by first | (rw [hy496]; with_reducible exact H) | (have H2_ := (Option.bind_some _ _).symm.trans H; rw [hy496]; with_reducible exact H2_) | (have H2_ := (Option.bind_some _ _).symm.trans H; with_reducible exact H2_) | with_reducible exact H | (rw [hy496]; exact H) | exact H
             have Ny496 := Aside0.mk hy496; clear hy496; obtain rfl := Option.some.inj H; have hnb152 := NB204_203.out; have hnc152 := NB203_204.out
             have hcz153 := fun i => blk_cell BK204.out i
             have hfz153 := fun i => blk_frozen BK204.out i
             have hcz154 := fun i => blk_cell BK203.out i
             have hfz154 := fun i => blk_frozen BK203.out i
             try go_wp2
             have n0_ := Aside0.mk (blk_drew BK203.out); have n1_ := Aside0.mk (blk_drew BK204.out); have n2_ := Aside0.mk (below_drew1 HB.out); clear BK203; clear BK204; clear HB; have BK203 := n0_; have BK204 := n1_; have HB := n2_; clear n0_ n1_ n2_
             have p390 : 0 ≤ (0 : Int) := (by omega)
             have q390 : 0 < (l2.length : Int) := of_decide_eq_true (by first | (with_reducible assumption) | assumption)
             obtain ⟨ad390, e390, hx390_0⟩ := Kd.at_int HR2.out 0 p390 q390; have hw390_0 := hx390_0
             (try rw [show ((0 : Int)).toNat = 0 from rfl] at hw390_0)
             (try rw [show 0 * 1 = 0 from rfl] at hw390_0)
             (try rw [Addr.add_zero'] at hw390_0)
             cases e390
             have qi390 : (0 < l2.length) = True := eq_true (by omega)
             (try rw [show ((0 : Int)).toNat = 0 from rfl] at hx390_0)
             (try rw [Addr.add_zero'] at hx390_0)
             replace hx390_0 := (HB.out.cell (World.block_lt_of_cell? w _ hx390_0)).trans hx390_0; replace p390 := eq_true p390; replace q390 := eq_true q390
             have p396 : 0 ≤ (1 : Int) := (by omega)
             have q396 : 1 < (l2.length : Int) := of_decide_eq_true (by first | (with_reducible assumption) | assumption)
             obtain ⟨ad396, e396, hx396_0⟩ := Kd.at_int HR2.out 1 p396 q396; have hw396_0 := hx396_0
             (try rw [show ((1 : Int)).toNat = 1 from rfl] at hw396_0)
             (try rw [show 1 * 1 = 1 from rfl] at hw396_0)
             (try simp only [Nat.reduceMul, Nat.reduceEqDiff, Go.Addr.add, ↓reduceIte] at hw396_0)
             obtain rfl : ad390 = ad396 := (by injection e396)
             (try simp only [show (1 : Int).toNat = 1 from rfl, Nat.reduceMul, Nat.reduceEqDiff, Go.Addr.add, ↓reduceIte] at hx396_0)
             have qi396 : (1 < l2.length) = True := eq_true (by omega)
             (try rw [show ((1 : Int)).toNat = 1 from rfl] at hx396_0)
             replace hx396_0 := (HB.out.cell (World.block_lt_of_cell? w _ hx396_0)).trans hx396_0; replace p396 := eq_true p396; replace q396 := eq_true q396
             have p407 : 0 ≤ (2 : Int) := (by omega)
             have q407 : 2 < (l2.length : Int) := of_decide_eq_true (by first | (with_reducible assumption) | assumption)
             obtain ⟨ad407, e407, hx407_0⟩ := Kd.at_int HR2.out 2 p407 q407; have hw407_0 := hx407_0
             (try rw [show ((2 : Int)).toNat = 2 from rfl] at hw407_0)
             (try rw [show 2 * 1 = 2 from rfl] at hw407_0)
             (try simp only [Nat.reduceMul, Nat.reduceEqDiff, Go.Addr.add, ↓reduceIte] at hw407_0)
             obtain rfl : ad390 = ad407 := (by injection e407)
             (try simp only [show (2 : Int).toNat = 2 from rfl, Nat.reduceMul, Nat.reduceEqDiff, Go.Addr.add, ↓reduceIte] at hx407_0)
             have qi407 : (2 < l2.length) = True := eq_true (by omega)
             (try rw [show ((2 : Int)).toNat = 2 from rfl] at hx407_0)
             replace hx407_0 := (HB.out.cell (World.block_lt_of_cell? w _ hx407_0)).trans hx407_0; replace p407 := eq_true p407; replace q407 := eq_true q407
             have p418 : 0 ≤ (4 : Int) := (by omega)
             have q418 : 4 < (l2.length : Int) := of_decide_eq_true (by first | (with_reducible assumption) | assumption)
             obtain ⟨ad418, e418, hx418_0⟩ := Kd.at_int HR2.out 4 p418 q418; have hw418_0 := hx418_0
             (try rw [show ((4 : Int)).toNat = 4 from rfl] at hw418_0)
             (try rw [show 4 * 1 = 4 from rfl] at hw418_0)
             (try simp only [Nat.reduceMul, Nat.reduceEqDiff, Go.Addr.add, ↓reduceIte] at hw418_0)
             obtain rfl : ad390 = ad418 := (by injection e418)
             (try simp only [show (4 : Int).toNat = 4 from rfl, Nat.reduceMul, Nat.reduceEqDiff, Go.Addr.add, ↓reduceIte] at hx418_0)
             have qi418 : (4 < l2.length) = True := eq_true (by omega)
             (try rw [show ((4 : Int)).toNat = 4 from rfl] at hx418_0)
             replace hx418_0 := (HB.out.cell (World.block_lt_of_cell? w _ hx418_0)).trans hx418_0; replace p418 := eq_true p418; replace q418 := eq_true q418
             refine start_ (n := 21) (S := fun w' => w'.cell? ad390 = some (.int .i64 (rd l2 0)) ∧ w'.cell? ⟨ad390.block, ad390.off + 1, none⟩ = some (.int .i64 (rd l2 1)) ∧ w'.cell? ⟨ad390.block, ad390.off + 2, none⟩ = some (.int .i64 (rd l2 2)) ∧ w'.cell? ⟨ad390.block, ad390.off + 4, none⟩ = some (.int .i64 (rd l2 4))) (ds := []) #[false, false, false, false, false, false, false, false, false, false, false, false, false, false, false, false, false, false, false, false, false] (by kernel_rfl) rfl rfl ⟨(clA HB.out hw390_0), (clA HB.out hw396_0), (clA HB.out hw407_0), (clA HB.out hw418_0)⟩ (fun hHeld => ?_); refine with_tabW steepleref25_System_Laid.tab11 steepleref25_System_Laid.bits11 (fun HT_ HW_ => ?_)
             generalize wc.drew = w155 at BK203 BK204 HB hx390_0 hx396_0 hx407_0 hx418_0 hHeld ⊢
             refine pureA 0 (some 117) HT_.out ?_
             refine pureA 1 (some 118) HT_.out ?_
             refine pureA 4 (some 121) HT_.out ?_
             refine pureA 5 (some 122) HT_.out ?_
             refine pureA 9 (some 126) HT_.out ?_
             refine pureA 10 (some 127) HT_.out ?_
             refine pureA 14 (some 131) HT_.out ?_
             refine pureA 15 (some 132) HT_.out ?_
             refine takeA 2 (some 119) rfl HT_.out HW_.out hHeld (Or.inl ⟨by rfl, by rintro w' ⟨s0, s1, s2, s3⟩; go_simp; with_reducible rfl⟩) ?_
             refine takeA 6 (some 123) rfl HT_.out HW_.out hHeld (Or.inl ⟨by rfl, by rintro w' ⟨s0, s1, s2, s3⟩; go_simp; with_reducible rfl⟩) ?_
             refine takeA 11 (some 128) rfl HT_.out HW_.out hHeld (Or.inl ⟨by rfl, by rintro w' ⟨s0, s1, s2, s3⟩; go_simp; with_reducible rfl⟩) ?_
             refine takeA 16 (some 133) rfl HT_.out HW_.out hHeld (Or.inl ⟨by rfl, by rintro w' ⟨s0, s1, s2, s3⟩; go_simp; with_reducible rfl⟩) ?_
             refine one_ (i := 3) (N := some 120) #[true, true, true, true, true, true, true, false, false, true, true, true, false, false, true, true, true, false, false, false, false] rfl rfl (one_of HT_.out (by kernel_rfl)) (by decide) (fun K hK => ?_)
             refine goes_ Try.func91 (by kernel_rfl) rfl #[.int .i64 (rd l2 0)] (by rfl) rfl rfl gsA ?_
             with_reducible refine (steepleref25_v.calls (rd l2 0) t391 t392 t393 t394 t395 _ A130.out).mono ?_
             rintro e w156 ⟨rfl, hb⟩
             refine ⟨_, rfl, ?_⟩
             have n0_ := Aside0.mk (blk_below (bkA BK203.out) hb); have n1_ := Aside0.mk (blk_below (bkA BK204.out) hb); have n2_ := Aside0.mk (below_step (blA HB.out) hb); clear BK203; clear BK204; clear HB; have BK203 := n0_; have BK204 := n1_; have HB := n2_; clear n0_ n1_ n2_
             (try clear hb)
             refine hK.out _ _ ⟨(clA HB.out hw390_0), (clA HB.out hw396_0), (clA HB.out hw407_0), (clA HB.out hw418_0)⟩ (fun hHeld => ?_)
             clear hK K
             refine normA ?_
             refine one_ (i := 7) (N := some 124) #[true, true, true, true, true, true, true, true, false, true, true, true, false, false, true, true, true, false, false, false, false] rfl rfl (one_of HT_.out (by kernel_rfl)) (by decide) (fun K hK => ?_)
             refine goes_ Try.func91 (by kernel_rfl) rfl #[.int .i64 (rd l2 1)] (by rfl) rfl rfl gsA ?_
             with_reducible refine (steepleref25_v.calls (rd l2 1) t397 t398 t399 t400 t401 _ A132.out).mono ?_
             rintro e w157 ⟨rfl, hb⟩
             refine ⟨_, rfl, ?_⟩
             have n0_ := Aside0.mk (blk_below (bkA BK203.out) hb); have n1_ := Aside0.mk (blk_below (bkA BK204.out) hb); have n2_ := Aside0.mk (below_step (blA HB.out) hb); clear BK203; clear BK204; clear HB; have BK203 := n0_; have BK204 := n1_; have HB := n2_; clear n0_ n1_ n2_
             (try clear hb)
             refine hK.out _ _ ⟨(clA HB.out hw390_0), (clA HB.out hw396_0), (clA HB.out hw407_0), (clA HB.out hw418_0)⟩ (fun hHeld => ?_)
             clear hK K
             refine normA ?_
             refine one_ (i := 8) (N := some 125) #[true, true, true, true, true, true, true, true, true, true, true, true, false, false, true, true, true, false, false, false, false] rfl rfl (one_of HT_.out (by kernel_rfl)) (by decide) (fun K hK => ?_)
             refine goes_ Try.func92 (by kernel_rfl) rfl #[.int .i64 0, .int .i64 1] (by rfl) rfl rfl gsA ?_
             with_reducible refine (steepleref25_plus.calls 0 1 t402 t403 t404 t405 t406 _ A133.out).mono ?_
             rintro e w158 ⟨rfl, hb⟩
             refine ⟨_, rfl, ?_⟩
             have n0_ := Aside0.mk (blk_below (bkA BK203.out) hb); have n1_ := Aside0.mk (blk_below (bkA BK204.out) hb); have n2_ := Aside0.mk (below_step (blA HB.out) hb); clear BK203; clear BK204; clear HB; have BK203 := n0_; have BK204 := n1_; have HB := n2_; clear n0_ n1_ n2_
             (try clear hb)
             refine hK.out _ _ ⟨(clA HB.out hw390_0), (clA HB.out hw396_0), (clA HB.out hw407_0), (clA HB.out hw418_0)⟩ (fun hHeld => ?_)
             clear hK K
             refine normA ?_
             refine one_ (i := 12) (N := some 129) #[true, true, true, true, true, true, true, true, true, true, true, true, true, false, true, true, true, false, false, false, false] rfl rfl (one_of HT_.out (by kernel_rfl)) (by decide) (fun K hK => ?_)
             refine goes_ Try.func91 (by kernel_rfl) rfl #[.int .i64 (rd l2 2)] (by rfl) rfl rfl gsA ?_
             with_reducible refine (steepleref25_v.calls (rd l2 2) t408 t409 t410 t411 t412 _ A135.out).mono ?_
             rintro e w159 ⟨rfl, hb⟩
             refine ⟨_, rfl, ?_⟩
             have n0_ := Aside0.mk (blk_below (bkA BK203.out) hb); have n1_ := Aside0.mk (blk_below (bkA BK204.out) hb); have n2_ := Aside0.mk (below_step (blA HB.out) hb); clear BK203; clear BK204; clear HB; have BK203 := n0_; have BK204 := n1_; have HB := n2_; clear n0_ n1_ n2_
             (try clear hb)
             refine hK.out _ _ ⟨(clA HB.out hw390_0), (clA HB.out hw396_0), (clA HB.out hw407_0), (clA HB.out hw418_0)⟩ (fun hHeld => ?_)
             clear hK K
             refine normA ?_
             refine one_ (i := 13) (N := some 130) #[true, true, true, true, true, true, true, true, true, true, true, true, true, true, true, true, true, false, false, false, false] rfl rfl (one_of HT_.out (by kernel_rfl)) (by decide) (fun K hK => ?_)
             refine goes_ Try.func92 (by kernel_rfl) rfl #[.int .i64 2, .int .i64 3] (by rfl) rfl rfl gsA ?_
             with_reducible refine (steepleref25_plus.calls 2 3 t413 t414 t415 t416 t417 _ A136.out).mono ?_
             rintro e w160 ⟨rfl, hb⟩
             refine ⟨_, rfl, ?_⟩
             have n0_ := Aside0.mk (blk_below (bkA BK203.out) hb); have n1_ := Aside0.mk (blk_below (bkA BK204.out) hb); have n2_ := Aside0.mk (below_step (blA HB.out) hb); clear BK203; clear BK204; clear HB; have BK203 := n0_; have BK204 := n1_; have HB := n2_; clear n0_ n1_ n2_
             (try clear hb)
             refine hK.out _ _ ⟨(clA HB.out hw390_0), (clA HB.out hw396_0), (clA HB.out hw407_0), (clA HB.out hw418_0)⟩ (fun hHeld => ?_)
             clear hK K
             refine normA ?_
             refine one_ (i := 17) (N := some 134) #[true, true, true, true, true, true, true, true, true, true, true, true, true, true, true, true, true, true, false, false, false] rfl rfl (one_of HT_.out (by kernel_rfl)) (by decide) (fun K hK => ?_)
             refine goes_ Try.func91 (by kernel_rfl) rfl #[.int .i64 (rd l2 4)] (by rfl) rfl rfl gsA ?_
             with_reducible refine (steepleref25_v.calls (rd l2 4) t419 t420 t421 t422 t423 _ A138.out).mono ?_
             rintro e w161 ⟨rfl, hb⟩
             refine ⟨_, rfl, ?_⟩
             have n0_ := Aside0.mk (blk_below (bkA BK203.out) hb); have n1_ := Aside0.mk (blk_below (bkA BK204.out) hb); have n2_ := Aside0.mk (below_step (blA HB.out) hb); clear BK203; clear BK204; clear HB; have BK203 := n0_; have BK204 := n1_; have HB := n2_; clear n0_ n1_ n2_
             (try clear hb)
             refine hK.out _ _ ⟨(clA HB.out hw390_0), (clA HB.out hw396_0), (clA HB.out hw407_0), (clA HB.out hw418_0)⟩ (fun hHeld => ?_)
             clear hK K
             refine normA ?_
             refine one_ (i := 18) (N := some 135) #[true, true, true, true, true, true, true, true, true, true, true, true, true, true, true, true, true, true, true, false, false] rfl rfl (one_of HT_.out (by kernel_rfl)) (by decide) (fun K hK => ?_)
             refine goes_ Try.func92 (by kernel_rfl) rfl #[.int .i64 4, .int .i64 5] (by rfl) rfl rfl gsA ?_
             with_reducible refine (steepleref25_plus.calls 4 5 t424 t425 t426 t427 t428 _ A139.out).mono ?_
             rintro e w162 ⟨rfl, hb⟩
             refine ⟨_, rfl, ?_⟩
             have n0_ := Aside0.mk (blk_below (bkA BK203.out) hb); have n1_ := Aside0.mk (blk_below (bkA BK204.out) hb); have n2_ := Aside0.mk (below_step (blA HB.out) hb); clear BK203; clear BK204; clear HB; have BK203 := n0_; have BK204 := n1_; have HB := n2_; clear n0_ n1_ n2_
             (try clear hb)
             refine hK.out _ _ ⟨(clA HB.out hw390_0), (clA HB.out hw396_0), (clA HB.out hw407_0), (clA HB.out hw418_0)⟩ (fun hHeld => ?_)
             clear hK K
             refine normA ?_
             refine one_ (i := 19) (N := some 136) #[true, true, true, true, true, true, true, true, true, true, true, true, true, true, true, true, true, true, true, true, false] rfl rfl (one_of HT_.out (by kernel_rfl)) (by decide) (fun K hK => ?_)
             refine Kd.R_lit_step k52 _ 52 ?hg (N := 136) ?hd (xs := ([(⟨t391, t392, t393, (⟨t394, t395⟩ : S45)⟩ : S52), (⟨t397, t398, t399, (⟨t400, t401⟩ : S45)⟩ : S52), (⟨t402, t403, t404, (⟨t405, t406⟩ : S45)⟩ : S52), (⟨t408, t409, t410, (⟨t411, t412⟩ : S45)⟩ : S52), (⟨t413, t414, t415, (⟨t416, t417⟩ : S45)⟩ : S52), (⟨t419, t420, t421, (⟨t422, t423⟩ : S45)⟩ : S52), (⟨t424, t425, t426, (⟨t427, t428⟩ : S45)⟩ : S52)] : List (S52))) (inner := [.int .i64 t391, .int .i64 t392, .int .i64 t393, .int .u64 t394, .int .u64 t395, .int .i64 t397, .int .i64 t398, .int .i64 t399, .int .u64 t400, .int .u64 t401, .int .i64 t402, .int .i64 t403, .int .i64 t404, .int .u64 t405, .int .u64 t406, .int .i64 t408, .int .i64 t409, .int .i64 t410, .int .u64 t411, .int .u64 t412, .int .i64 t413, .int .i64 t414, .int .i64 t415, .int .u64 t416, .int .u64 t417, .int .i64 t419, .int .i64 t420, .int .i64 t421, .int .u64 t422, .int .u64 t423, .int .i64 t424, .int .i64 t425, .int .i64 t426, .int .u64 t427, .int .u64 t428]) (ok := fun _ => True) (okp := fun _ => True) ?hr ?hp (fun _ hk => hk) trivial (Below.refl _ _) (Nat.le_refl _) (by simp) ?_; (case hd => rfl); (case hg => rfl); (case hr => first | (go_simp; done) | (go_simp; rfl)); (case hp => exact (Reps.c5 (show Kd.M k52 _ _ _ (⟨t391, t392, t393, (⟨t394, t395⟩ : S45)⟩ : S52) [.int .i64 t391, .int .i64 t392, .int .i64 t393, .int .u64 t394, .int .u64 t395] from (k52_mkM _ _ _ (⟨t391, t392, t393, (⟨t394, t395⟩ : S45)⟩ : S52) )) (Reps.c5 (show Kd.M k52 _ _ _ (⟨t397, t398, t399, (⟨t400, t401⟩ : S45)⟩ : S52) [.int .i64 t397, .int .i64 t398, .int .i64 t399, .int .u64 t400, .int .u64 t401] from (k52_mkM _ _ _ (⟨t397, t398, t399, (⟨t400, t401⟩ : S45)⟩ : S52) )) (Reps.c5 (show Kd.M k52 _ _ _ (⟨t402, t403, t404, (⟨t405, t406⟩ : S45)⟩ : S52) [.int .i64 t402, .int .i64 t403, .int .i64 t404, .int .u64 t405, .int .u64 t406] from (k52_mkM _ _ _ (⟨t402, t403, t404, (⟨t405, t406⟩ : S45)⟩ : S52) )) (Reps.c5 (show Kd.M k52 _ _ _ (⟨t408, t409, t410, (⟨t411, t412⟩ : S45)⟩ : S52) [.int .i64 t408, .int .i64 t409, .int .i64 t410, .int .u64 t411, .int .u64 t412] from (k52_mkM _ _ _ (⟨t408, t409, t410, (⟨t411, t412⟩ : S45)⟩ : S52) )) (Reps.c5 (show Kd.M k52 _ _ _ (⟨t413, t414, t415, (⟨t416, t417⟩ : S45)⟩ : S52) [.int .i64 t413, .int .i64 t414, .int .i64 t415, .int .u64 t416, .int .u64 t417] from (k52_mkM _ _ _ (⟨t413, t414, t415, (⟨t416, t417⟩ : S45)⟩ : S52) )) (Reps.c5 (show Kd.M k52 _ _ _ (⟨t419, t420, t421, (⟨t422, t423⟩ : S45)⟩ : S52) [.int .i64 t419, .int .i64 t420, .int .i64 t421, .int .u64 t422, .int .u64 t423] from (k52_mkM _ _ _ (⟨t419, t420, t421, (⟨t422, t423⟩ : S45)⟩ : S52) )) (Reps.c5 (show Kd.M k52 _ _ _ (⟨t424, t425, t426, (⟨t427, t428⟩ : S45)⟩ : S52) [.int .i64 t424, .int .i64 t425, .int .i64 t426, .int .u64 t427, .int .u64 t428] from (k52_mkM _ _ _ (⟨t424, t425, t426, (⟨t427, t428⟩ : S45)⟩ : S52) )) (Reps.none _ _)))))))))
             intro v430 w163 ho164 hb hg_ hnew_
             clear hg_ hnew_
             (first | rw [← Ny429.out] at ho164 | (simp only [Int.reduceToNat] at ho164; rw [← Ny429.out] at ho164))
             have n0_ := Aside0.mk (Kd.R_lower (Kd.R_newM (M := fun k_ => (w.heap.size ≤ k_)) ho164 (below_size (blA HB.out)) (fun k_ h_ => h_)) (below_size (blA HB.out)))
             have n1_ := Aside0.mk (blk_below (bkA BK203.out) hb); have n2_ := Aside0.mk (blk_below (bkA BK204.out) hb); have n3_ := Aside0.mk (below_step (blA HB.out) hb); clear BK203; clear BK204; clear HB; have HO431 := n0_; have BK203 := n1_; have BK204 := n2_; have HB := n3_; clear n0_ n1_ n2_ n3_; clear hb ho164
             refine hK.out _ _ ⟨(clA HB.out hw390_0), (clA HB.out hw396_0), (clA HB.out hw407_0), (clA HB.out hw418_0)⟩ (fun hHeld => ?_)
             clear hK K
             refine normA ?_
             refine pureA 20 (some 7) HT_.out ?_
             refine done_ (done_of HT_.out (by kernel_rfl)) ?_
             try go_wp2
             have n0_ := Aside0.mk (Kd.R_drew HO431.out); have n1_ := Aside0.mk (blk_drew BK203.out); have n2_ := Aside0.mk (blk_drew BK204.out); have n3_ := Aside0.mk (below_drew1 HB.out); clear HO431; clear BK203; clear BK204; clear HB; have HO431 := n0_; have BK203 := n1_; have BK204 := n2_; have HB := n3_; clear n0_ n1_ n2_ n3_
             have p432 : 0 ≤ (3 : Int) := (by omega)
             have q432 : 3 < (l2.length : Int) := of_decide_eq_true (by first | (with_reducible assumption) | assumption)
             obtain ⟨ad432, e432, hx432_0⟩ := Kd.at_int HR2.out 3 p432 q432; have hw432_0 := hx432_0
             (try rw [show ((3 : Int)).toNat = 3 from rfl] at hw432_0)
             (try rw [show 3 * 1 = 3 from rfl] at hw432_0)
             (try simp only [Nat.reduceMul, Nat.reduceEqDiff, Go.Addr.add, ↓reduceIte] at hw432_0)
             obtain rfl : ad390 = ad432 := (by injection e432)
             (try simp only [show (3 : Int).toNat = 3 from rfl, Nat.reduceMul, Nat.reduceEqDiff, Go.Addr.add, ↓reduceIte] at hx432_0)
             have qi432 : (3 < l2.length) = True := eq_true (by omega)
             (try rw [show ((3 : Int)).toNat = 3 from rfl] at hx432_0)
             replace hx432_0 := (HB.out.cell (World.block_lt_of_cell? w _ hx432_0)).trans hx432_0; replace p432 := eq_true p432; replace q432 := eq_true q432
             have p438 : 0 ≤ (1 : Int) := (by omega)
             have q438 : 1 < (l2.length : Int) := of_decide_eq_true (by first | (with_reducible assumption) | assumption)
             obtain ⟨ad438, e438, hx438_0⟩ := Kd.at_int HR2.out 1 p438 q438; have hw438_0 := hx438_0
             (try rw [show ((1 : Int)).toNat = 1 from rfl] at hw438_0)
             (try rw [show 1 * 1 = 1 from rfl] at hw438_0)
             (try simp only [Nat.reduceMul, Nat.reduceEqDiff, Go.Addr.add, ↓reduceIte] at hw438_0)
             obtain rfl : ad390 = ad438 := (by injection e438)
             (try simp only [show (1 : Int).toNat = 1 from rfl, Nat.reduceMul, Nat.reduceEqDiff, Go.Addr.add, ↓reduceIte] at hx438_0)
             have qi438 : (1 < l2.length) = True := eq_true (by omega)
             (try rw [show ((1 : Int)).toNat = 1 from rfl] at hx438_0)
             replace hx438_0 := (HB.out.cell (World.block_lt_of_cell? w _ hx438_0)).trans hx438_0; replace p438 := eq_true p438; replace q438 := eq_true q438
             have p444 : 0 ≤ (2 : Int) := (by omega)
             have q444 : 2 < (l2.length : Int) := of_decide_eq_true (by first | (with_reducible assumption) | assumption)
             obtain ⟨ad444, e444, hx444_0⟩ := Kd.at_int HR2.out 2 p444 q444; have hw444_0 := hx444_0
             (try rw [show ((2 : Int)).toNat = 2 from rfl] at hw444_0)
             (try rw [show 2 * 1 = 2 from rfl] at hw444_0)
             (try simp only [Nat.reduceMul, Nat.reduceEqDiff, Go.Addr.add, ↓reduceIte] at hw444_0)
             obtain rfl : ad390 = ad444 := (by injection e444)
             (try simp only [show (2 : Int).toNat = 2 from rfl, Nat.reduceMul, Nat.reduceEqDiff, Go.Addr.add, ↓reduceIte] at hx444_0)
             have qi444 : (2 < l2.length) = True := eq_true (by omega)
             (try rw [show ((2 : Int)).toNat = 2 from rfl] at hx444_0)
             replace hx444_0 := (HB.out.cell (World.block_lt_of_cell? w _ hx444_0)).trans hx444_0; replace p444 := eq_true p444; replace q444 := eq_true q444
             have p460 : 0 ≤ (4 : Int) := (by omega)
             have q460 : 4 < (l2.length : Int) := of_decide_eq_true (by first | (with_reducible assumption) | assumption)
             obtain ⟨ad460, e460, hx460_0⟩ := Kd.at_int HR2.out 4 p460 q460; have hw460_0 := hx460_0
             (try rw [show ((4 : Int)).toNat = 4 from rfl] at hw460_0)
             (try rw [show 4 * 1 = 4 from rfl] at hw460_0)
             (try simp only [Nat.reduceMul, Nat.reduceEqDiff, Go.Addr.add, ↓reduceIte] at hw460_0)
             obtain rfl : ad390 = ad460 := (by injection e460)
             (try simp only [show (4 : Int).toNat = 4 from rfl, Nat.reduceMul, Nat.reduceEqDiff, Go.Addr.add, ↓reduceIte] at hx460_0)
             have qi460 : (4 < l2.length) = True := eq_true (by omega)
             (try rw [show ((4 : Int)).toNat = 4 from rfl] at hx460_0)
             replace hx460_0 := (HB.out.cell (World.block_lt_of_cell? w _ hx460_0)).trans hx460_0; replace p460 := eq_true p460; replace q460 := eq_true q460
             have p466 : 0 ≤ (1 : Int) := (by omega)
             have q466 : 1 < (l2.length : Int) := of_decide_eq_true (by first | (with_reducible assumption) | assumption)
             obtain ⟨ad466, e466, hx466_0⟩ := Kd.at_int HR2.out 1 p466 q466; have hw466_0 := hx466_0
             (try rw [show ((1 : Int)).toNat = 1 from rfl] at hw466_0)
             (try rw [show 1 * 1 = 1 from rfl] at hw466_0)
             (try simp only [Nat.reduceMul, Nat.reduceEqDiff, Go.Addr.add, ↓reduceIte] at hw466_0)
             obtain rfl : ad390 = ad466 := (by injection e466)
             (try simp only [show (1 : Int).toNat = 1 from rfl, Nat.reduceMul, Nat.reduceEqDiff, Go.Addr.add, ↓reduceIte] at hx466_0)
             have qi466 : (1 < l2.length) = True := eq_true (by omega)
             (try rw [show ((1 : Int)).toNat = 1 from rfl] at hx466_0)
             replace hx466_0 := (HB.out.cell (World.block_lt_of_cell? w _ hx466_0)).trans hx466_0; replace p466 := eq_true p466; replace q466 := eq_true q466
             have p472 : 0 ≤ (2 : Int) := (by omega)
             have q472 : 2 < (l2.length : Int) := of_decide_eq_true (by first | (with_reducible assumption) | assumption)
             obtain ⟨ad472, e472, hx472_0⟩ := Kd.at_int HR2.out 2 p472 q472; have hw472_0 := hx472_0
             (try rw [show ((2 : Int)).toNat = 2 from rfl] at hw472_0)
             (try rw [show 2 * 1 = 2 from rfl] at hw472_0)
             (try simp only [Nat.reduceMul, Nat.reduceEqDiff, Go.Addr.add, ↓reduceIte] at hw472_0)
             obtain rfl : ad390 = ad472 := (by injection e472)
             (try simp only [show (2 : Int).toNat = 2 from rfl, Nat.reduceMul, Nat.reduceEqDiff, Go.Addr.add, ↓reduceIte] at hx472_0)
             have qi472 : (2 < l2.length) = True := eq_true (by omega)
             (try rw [show ((2 : Int)).toNat = 2 from rfl] at hx472_0)
             replace hx472_0 := (HB.out.cell (World.block_lt_of_cell? w _ hx472_0)).trans hx472_0; replace p472 := eq_true p472; replace q472 := eq_true q472
             refine start_ (n := 31) (S := fun w' => w'.cell? ⟨ad390.block, ad390.off + 3, none⟩ = some (.int .i64 (rd l2 3)) ∧ w'.cell? ⟨ad390.block, ad390.off + 1, none⟩ = some (.int .i64 (rd l2 1)) ∧ w'.cell? ⟨ad390.block, ad390.off + 2, none⟩ = some (.int .i64 (rd l2 2)) ∧ w'.cell? ⟨ad390.block, ad390.off + 4, none⟩ = some (.int .i64 (rd l2 4)) ∧ w'.cell? ⟨ad390.block, ad390.off + 1, none⟩ = some (.int .i64 (rd l2 1)) ∧ w'.cell? ⟨ad390.block, ad390.off + 2, none⟩ = some (.int .i64 (rd l2 2))) (ds := []) #[false, false, false, false, false, false, false, false, false, false, false, false, false, false, false, false, false, false, false, false, false, false, false, false, false, false, false, false, false, false, false] (by kernel_rfl) rfl rfl ⟨(clA HB.out hw432_0), (clA HB.out hw438_0), (clA HB.out hw444_0), (clA HB.out hw460_0), (clA HB.out hw466_0), (clA HB.out hw472_0)⟩ (fun hHeld => ?_); refine with_tabW steepleref25_System_Laid.tab12 steepleref25_System_Laid.bits12 (fun HT_ HW_ => ?_)
             generalize w163.drew = w165 at HO431 BK203 BK204 HB hx432_0 hx438_0 hx444_0 hx460_0 hx466_0 hx472_0 hHeld ⊢
             refine pureA 0 (some 137) HT_.out ?_
             refine pureA 1 (some 138) HT_.out ?_
             refine pureA 4 (some 141) HT_.out ?_
             refine pureA 5 (some 142) HT_.out ?_
             refine pureA 8 (some 145) HT_.out ?_
             refine pureA 9 (some 146) HT_.out ?_
             refine pureA 14 (some 151) HT_.out ?_
             refine pureA 15 (some 152) HT_.out ?_
             refine pureA 18 (some 155) HT_.out ?_
             refine pureA 19 (some 156) HT_.out ?_
             refine pureA 22 (some 159) HT_.out ?_
             refine pureA 23 (some 160) HT_.out ?_
             refine takeA 2 (some 139) rfl HT_.out HW_.out hHeld (Or.inl ⟨by rfl, by rintro w' ⟨s0, s1, s2, s3, s4, s5⟩; go_simp; with_reducible rfl⟩) ?_
             refine takeA 6 (some 143) rfl HT_.out HW_.out hHeld (Or.inl ⟨by rfl, by rintro w' ⟨s0, s1, s2, s3, s4, s5⟩; go_simp; with_reducible rfl⟩) ?_
             refine takeA 10 (some 147) rfl HT_.out HW_.out hHeld (Or.inl ⟨by rfl, by rintro w' ⟨s0, s1, s2, s3, s4, s5⟩; go_simp; with_reducible rfl⟩) ?_
             refine takeA 16 (some 153) rfl HT_.out HW_.out hHeld (Or.inl ⟨by rfl, by rintro w' ⟨s0, s1, s2, s3, s4, s5⟩; go_simp; with_reducible rfl⟩) ?_
             refine takeA 20 (some 157) rfl HT_.out HW_.out hHeld (Or.inl ⟨by rfl, by rintro w' ⟨s0, s1, s2, s3, s4, s5⟩; go_simp; with_reducible rfl⟩) ?_
             refine takeA 24 (some 161) rfl HT_.out HW_.out hHeld (Or.inl ⟨by rfl, by rintro w' ⟨s0, s1, s2, s3, s4, s5⟩; go_simp; with_reducible rfl⟩) ?_
             refine one_ (i := 3) (N := some 140) #[true, true, true, true, true, true, true, false, true, true, true, false, false, false, true, true, true, false, true, true, true, false, true, true, true, false, false, false, false, false, false] rfl rfl (one_of HT_.out (by kernel_rfl)) (by decide) (fun K hK => ?_)
             refine goes_ Try.func91 (by kernel_rfl) rfl #[.int .i64 (rd l2 3)] (by rfl) rfl rfl gsA ?_
             with_reducible refine (steepleref25_v.calls (rd l2 3) t433 t434 t435 t436 t437 _ A141.out).mono ?_
             rintro e w166 ⟨rfl, hb⟩
             refine ⟨_, rfl, ?_⟩
             have n0_ := Aside0.mk (Kd.R_below (raA HO431.out) hb)
             have n1_ := Aside0.mk (blk_below (bkA BK203.out) hb); have n2_ := Aside0.mk (blk_below (bkA BK204.out) hb); have n3_ := Aside0.mk (below_step (blA HB.out) hb); clear HO431; clear BK203; clear BK204; clear HB; have HO431 := n0_; have BK203 := n1_; have BK204 := n2_; have HB := n3_; clear n0_ n1_ n2_ n3_
             (try clear hb)
             refine hK.out _ _ ⟨(clA HB.out hw432_0), (clA HB.out hw438_0), (clA HB.out hw444_0), (clA HB.out hw460_0), (clA HB.out hw466_0), (clA HB.out hw472_0)⟩ (fun hHeld => ?_)
             clear hK K
             refine normA ?_
             refine one_ (i := 7) (N := some 144) #[true, true, true, true, true, true, true, true, true, true, true, false, false, false, true, true, true, false, true, true, true, false, true, true, true, false, false, false, false, false, false] rfl rfl (one_of HT_.out (by kernel_rfl)) (by decide) (fun K hK => ?_)
             refine goes_ Try.func91 (by kernel_rfl) rfl #[.int .i64 (rd l2 1)] (by rfl) rfl rfl gsA ?_
             with_reducible refine (steepleref25_v.calls (rd l2 1) t439 t440 t441 t442 t443 _ A142.out).mono ?_
             rintro e w167 ⟨rfl, hb⟩
             refine ⟨_, rfl, ?_⟩
             have n0_ := Aside0.mk (Kd.R_below (raA HO431.out) hb)
             have n1_ := Aside0.mk (blk_below (bkA BK203.out) hb); have n2_ := Aside0.mk (blk_below (bkA BK204.out) hb); have n3_ := Aside0.mk (below_step (blA HB.out) hb); clear HO431; clear BK203; clear BK204; clear HB; have HO431 := n0_; have BK203 := n1_; have BK204 := n2_; have HB := n3_; clear n0_ n1_ n2_ n3_
             (try clear hb)
             refine hK.out _ _ ⟨(clA HB.out hw432_0), (clA HB.out hw438_0), (clA HB.out hw444_0), (clA HB.out hw460_0), (clA HB.out hw466_0), (clA HB.out hw472_0)⟩ (fun hHeld => ?_)
             clear hK K
             refine normA ?_
             refine one_ (i := 11) (N := some 148) #[true, true, true, true, true, true, true, true, true, true, true, true, false, false, true, true, true, false, true, true, true, false, true, true, true, false, false, false, false, false, false] rfl rfl (one_of HT_.out (by kernel_rfl)) (by decide) (fun K hK => ?_)
             refine goes_ Try.func91 (by kernel_rfl) rfl #[.int .i64 (rd l2 2)] (by rfl) rfl rfl gsA ?_
             with_reducible refine (steepleref25_v.calls (rd l2 2) t445 t446 t447 t448 t449 _ A143.out).mono ?_
             rintro e w168 ⟨rfl, hb⟩
             refine ⟨_, rfl, ?_⟩
             have n0_ := Aside0.mk (Kd.R_below (raA HO431.out) hb)
             have n1_ := Aside0.mk (blk_below (bkA BK203.out) hb); have n2_ := Aside0.mk (blk_below (bkA BK204.out) hb); have n3_ := Aside0.mk (below_step (blA HB.out) hb); clear HO431; clear BK203; clear BK204; clear HB; have HO431 := n0_; have BK203 := n1_; have BK204 := n2_; have HB := n3_; clear n0_ n1_ n2_ n3_
             (try clear hb)
             refine hK.out _ _ ⟨(clA HB.out hw432_0), (clA HB.out hw438_0), (clA HB.out hw444_0), (clA HB.out hw460_0), (clA HB.out hw466_0), (clA HB.out hw472_0)⟩ (fun hHeld => ?_)
             clear hK K
             refine normA ?_
             refine one_ (i := 12) (N := some 149) #[true, true, true, true, true, true, true, true, true, true, true, true, true, false, true, true, true, false, true, true, true, false, true, true, true, false, false, false, false, false, false] rfl rfl (one_of HT_.out (by kernel_rfl)) (by decide) (fun K hK => ?_)
             refine goes_ Try.func93 (by kernel_rfl) rfl #[.int .i64 1, .int .i64 2] (by rfl) rfl rfl gsA ?_
             with_reducible refine (steepleref25_times.calls 1 2 t450 t451 t452 t453 t454 _ A144.out).mono ?_
             rintro e w169 ⟨rfl, hb⟩
             refine ⟨_, rfl, ?_⟩
             have n0_ := Aside0.mk (Kd.R_below (raA HO431.out) hb)
             have n1_ := Aside0.mk (blk_below (bkA BK203.out) hb); have n2_ := Aside0.mk (blk_below (bkA BK204.out) hb); have n3_ := Aside0.mk (below_step (blA HB.out) hb); clear HO431; clear BK203; clear BK204; clear HB; have HO431 := n0_; have BK203 := n1_; have BK204 := n2_; have HB := n3_; clear n0_ n1_ n2_ n3_
             (try clear hb)
             refine hK.out _ _ ⟨(clA HB.out hw432_0), (clA HB.out hw438_0), (clA HB.out hw444_0), (clA HB.out hw460_0), (clA HB.out hw466_0), (clA HB.out hw472_0)⟩ (fun hHeld => ?_)
             clear hK K
             refine normA ?_
             refine one_ (i := 13) (N := some 150) #[true, true, true, true, true, true, true, true, true, true, true, true, true, true, true, true, true, false, true, true, true, false, true, true, true, false, false, false, false, false, false] rfl rfl (one_of HT_.out (by kernel_rfl)) (by decide) (fun K hK => ?_)
             refine goes_ Try.func92 (by kernel_rfl) rfl #[.int .i64 0, .int .i64 3] (by rfl) rfl rfl gsA ?_
             with_reducible refine (steepleref25_plus.calls 0 3 t455 t456 t457 t458 t459 _ A145.out).mono ?_
             rintro e w170 ⟨rfl, hb⟩
             refine ⟨_, rfl, ?_⟩
             have n0_ := Aside0.mk (Kd.R_below (raA HO431.out) hb)
             have n1_ := Aside0.mk (blk_below (bkA BK203.out) hb); have n2_ := Aside0.mk (blk_below (bkA BK204.out) hb); have n3_ := Aside0.mk (below_step (blA HB.out) hb); clear HO431; clear BK203; clear BK204; clear HB; have HO431 := n0_; have BK203 := n1_; have BK204 := n2_; have HB := n3_; clear n0_ n1_ n2_ n3_
             (try clear hb)
             refine hK.out _ _ ⟨(clA HB.out hw432_0), (clA HB.out hw438_0), (clA HB.out hw444_0), (clA HB.out hw460_0), (clA HB.out hw466_0), (clA HB.out hw472_0)⟩ (fun hHeld => ?_)
             clear hK K
             refine normA ?_
             refine one_ (i := 17) (N := some 154) #[true, true, true, true, true, true, true, true, true, true, true, true, true, true, true, true, true, true, true, true, true, false, true, true, true, false, false, false, false, false, false] rfl rfl (one_of HT_.out (by kernel_rfl)) (by decide) (fun K hK => ?_)
             refine goes_ Try.func91 (by kernel_rfl) rfl #[.int .i64 (rd l2 4)] (by rfl) rfl rfl gsA ?_
             with_reducible refine (steepleref25_v.calls (rd l2 4) t461 t462 t463 t464 t465 _ A146.out).mono ?_
             rintro e w171 ⟨rfl, hb⟩
             refine ⟨_, rfl, ?_⟩
             have n0_ := Aside0.mk (Kd.R_below (raA HO431.out) hb)
             have n1_ := Aside0.mk (blk_below (bkA BK203.out) hb); have n2_ := Aside0.mk (blk_below (bkA BK204.out) hb); have n3_ := Aside0.mk (below_step (blA HB.out) hb); clear HO431; clear BK203; clear BK204; clear HB; have HO431 := n0_; have BK203 := n1_; have BK204 := n2_; have HB := n3_; clear n0_ n1_ n2_ n3_
             (try clear hb)
             refine hK.out _ _ ⟨(clA HB.out hw432_0), (clA HB.out hw438_0), (clA HB.out hw444_0), (clA HB.out hw460_0), (clA HB.out hw466_0), (clA HB.out hw472_0)⟩ (fun hHeld => ?_)
             clear hK K
             refine normA ?_
             refine one_ (i := 21) (N := some 158) #[true, true, true, true, true, true, true, true, true, true, true, true, true, true, true, true, true, true, true, true, true, true, true, true, true, false, false, false, false, false, false] rfl rfl (one_of HT_.out (by kernel_rfl)) (by decide) (fun K hK => ?_)
             refine goes_ Try.func91 (by kernel_rfl) rfl #[.int .i64 (rd l2 1)] (by rfl) rfl rfl gsA ?_
             with_reducible refine (steepleref25_v.calls (rd l2 1) t467 t468 t469 t470 t471 _ A147.out).mono ?_
             rintro e w172 ⟨rfl, hb⟩
             refine ⟨_, rfl, ?_⟩
             have n0_ := Aside0.mk (Kd.R_below (raA HO431.out) hb)
             have n1_ := Aside0.mk (blk_below (bkA BK203.out) hb); have n2_ := Aside0.mk (blk_below (bkA BK204.out) hb); have n3_ := Aside0.mk (below_step (blA HB.out) hb); clear HO431; clear BK203; clear BK204; clear HB; have HO431 := n0_; have BK203 := n1_; have BK204 := n2_; have HB := n3_; clear n0_ n1_ n2_ n3_
             (try clear hb)
             refine hK.out _ _ ⟨(clA HB.out hw432_0), (clA HB.out hw438_0), (clA HB.out hw444_0), (clA HB.out hw460_0), (clA HB.out hw466_0), (clA HB.out hw472_0)⟩ (fun hHeld => ?_)
             clear hK K
             refine normA ?_
             refine one_ (i := 25) (N := some 162) #[true, true, true, true, true, true, true, true, true, true, true, true, true, true, true, true, true, true, true, true, true, true, true, true, true, true, false, false, false, false, false] rfl rfl (one_of HT_.out (by kernel_rfl)) (by decide) (fun K hK => ?_)
             refine goes_ Try.func91 (by kernel_rfl) rfl #[.int .i64 (rd l2 2)] (by rfl) rfl rfl gsA ?_
             with_reducible refine (steepleref25_v.calls (rd l2 2) t473 t474 t475 t476 t477 _ A148.out).mono ?_
             rintro e w173 ⟨rfl, hb⟩
             refine ⟨_, rfl, ?_⟩
             have n0_ := Aside0.mk (Kd.R_below (raA HO431.out) hb)
             have n1_ := Aside0.mk (blk_below (bkA BK203.out) hb); have n2_ := Aside0.mk (blk_below (bkA BK204.out) hb); have n3_ := Aside0.mk (below_step (blA HB.out) hb); clear HO431; clear BK203; clear BK204; clear HB; have HO431 := n0_; have BK203 := n1_; have BK204 := n2_; have HB := n3_; clear n0_ n1_ n2_ n3_
             (try clear hb)
             refine hK.out _ _ ⟨(clA HB.out hw432_0), (clA HB.out hw438_0), (clA HB.out hw444_0), (clA HB.out hw460_0), (clA HB.out hw466_0), (clA HB.out hw472_0)⟩ (fun hHeld => ?_)
             clear hK K
             refine normA ?_
             refine one_ (i := 26) (N := some 163) #[true, true, true, true, true, true, true, true, true, true, true, true, true, true, true, true, true, true, true, true, true, true, true, true, true, true, true, false, false, false, false] rfl rfl (one_of HT_.out (by kernel_rfl)) (by decide) (fun K hK => ?_)
             refine goes_ Try.func92 (by kernel_rfl) rfl #[.int .i64 6, .int .i64 7] (by rfl) rfl rfl gsA ?_
             with_reducible refine (steepleref25_plus.calls 6 7 t478 t479 t480 t481 t482 _ A149.out).mono ?_
             rintro e w174 ⟨rfl, hb⟩
             refine ⟨_, rfl, ?_⟩
             have n0_ := Aside0.mk (Kd.R_below (raA HO431.out) hb)
             have n1_ := Aside0.mk (blk_below (bkA BK203.out) hb); have n2_ := Aside0.mk (blk_below (bkA BK204.out) hb); have n3_ := Aside0.mk (below_step (blA HB.out) hb); clear HO431; clear BK203; clear BK204; clear HB; have HO431 := n0_; have BK203 := n1_; have BK204 := n2_; have HB := n3_; clear n0_ n1_ n2_ n3_
             (try clear hb)
             refine hK.out _ _ ⟨(clA HB.out hw432_0), (clA HB.out hw438_0), (clA HB.out hw444_0), (clA HB.out hw460_0), (clA HB.out hw466_0), (clA HB.out hw472_0)⟩ (fun hHeld => ?_)
             clear hK K
             refine normA ?_
             refine one_ (i := 27) (N := some 164) #[true, true, true, true, true, true, true, true, true, true, true, true, true, true, true, true, true, true, true, true, true, true, true, true, true, true, true, true, false, false, false] rfl rfl (one_of HT_.out (by kernel_rfl)) (by decide) (fun K hK => ?_)
             refine goes_ Try.func93 (by kernel_rfl) rfl #[.int .i64 5, .int .i64 8] (by rfl) rfl rfl gsA ?_
             with_reducible refine (steepleref25_times.calls 5 8 t483 t484 t485 t486 t487 _ A150.out).mono ?_
             rintro e w175 ⟨rfl, hb⟩
             refine ⟨_, rfl, ?_⟩
             have n0_ := Aside0.mk (Kd.R_below (raA HO431.out) hb)
             have n1_ := Aside0.mk (blk_below (bkA BK203.out) hb); have n2_ := Aside0.mk (blk_below (bkA BK204.out) hb); have n3_ := Aside0.mk (below_step (blA HB.out) hb); clear HO431; clear BK203; clear BK204; clear HB; have HO431 := n0_; have BK203 := n1_; have BK204 := n2_; have HB := n3_; clear n0_ n1_ n2_ n3_
             (try clear hb)
             refine hK.out _ _ ⟨(clA HB.out hw432_0), (clA HB.out hw438_0), (clA HB.out hw444_0), (clA HB.out hw460_0), (clA HB.out hw466_0), (clA HB.out hw472_0)⟩ (fun hHeld => ?_)
             clear hK K
             refine normA ?_
             refine one_ (i := 28) (N := some 165) #[true, true, true, true, true, true, true, true, true, true, true, true, true, true, true, true, true, true, true, true, true, true, true, true, true, true, true, true, true, false, false] rfl rfl (one_of HT_.out (by kernel_rfl)) (by decide) (fun K hK => ?_)
             refine goes_ Try.func92 (by kernel_rfl) rfl #[.int .i64 4, .int .i64 9] (by rfl) rfl rfl gsA ?_
             with_reducible refine (steepleref25_plus.calls 4 9 t488 t489 t490 t491 t492 _ A151.out).mono ?_
             rintro e w176 ⟨rfl, hb⟩
             refine ⟨_, rfl, ?_⟩
             have n0_ := Aside0.mk (Kd.R_below (raA HO431.out) hb)
             have n1_ := Aside0.mk (blk_below (bkA BK203.out) hb); have n2_ := Aside0.mk (blk_below (bkA BK204.out) hb); have n3_ := Aside0.mk (below_step (blA HB.out) hb); clear HO431; clear BK203; clear BK204; clear HB; have HO431 := n0_; have BK203 := n1_; have BK204 := n2_; have HB := n3_; clear n0_ n1_ n2_ n3_
             (try clear hb)
             refine hK.out _ _ ⟨(clA HB.out hw432_0), (clA HB.out hw438_0), (clA HB.out hw444_0), (clA HB.out hw460_0), (clA HB.out hw466_0), (clA HB.out hw472_0)⟩ (fun hHeld => ?_)
             clear hK K
             refine normA ?_
             refine one_ (i := 29) (N := some 166) #[true, true, true, true, true, true, true, true, true, true, true, true, true, true, true, true, true, true, true, true, true, true, true, true, true, true, true, true, true, true, false] rfl rfl (one_of HT_.out (by kernel_rfl)) (by decide) (fun K hK => ?_)
             refine Kd.R_lit_step k52 _ 52 ?hg (N := 166) ?hd (xs := ([(⟨t433, t434, t435, (⟨t436, t437⟩ : S45)⟩ : S52), (⟨t439, t440, t441, (⟨t442, t443⟩ : S45)⟩ : S52), (⟨t445, t446, t447, (⟨t448, t449⟩ : S45)⟩ : S52), (⟨t450, t451, t452, (⟨t453, t454⟩ : S45)⟩ : S52), (⟨t455, t456, t457, (⟨t458, t459⟩ : S45)⟩ : S52), (⟨t461, t462, t463, (⟨t464, t465⟩ : S45)⟩ : S52), (⟨t467, t468, t469, (⟨t470, t471⟩ : S45)⟩ : S52), (⟨t473, t474, t475, (⟨t476, t477⟩ : S45)⟩ : S52), (⟨t478, t479, t480, (⟨t481, t482⟩ : S45)⟩ : S52), (⟨t483, t484, t485, (⟨t486, t487⟩ : S45)⟩ : S52), (⟨t488, t489, t490, (⟨t491, t492⟩ : S45)⟩ : S52)] : List (S52))) (inner := [.int .i64 t433, .int .i64 t434, .int .i64 t435, .int .u64 t436, .int .u64 t437, .int .i64 t439, .int .i64 t440, .int .i64 t441, .int .u64 t442, .int .u64 t443, .int .i64 t445, .int .i64 t446, .int .i64 t447, .int .u64 t448, .int .u64 t449, .int .i64 t450, .int .i64 t451, .int .i64 t452, .int .u64 t453, .int .u64 t454, .int .i64 t455, .int .i64 t456, .int .i64 t457, .int .u64 t458, .int .u64 t459, .int .i64 t461, .int .i64 t462, .int .i64 t463, .int .u64 t464, .int .u64 t465, .int .i64 t467, .int .i64 t468, .int .i64 t469, .int .u64 t470, .int .u64 t471, .int .i64 t473, .int .i64 t474, .int .i64 t475, .int .u64 t476, .int .u64 t477, .int .i64 t478, .int .i64 t479, .int .i64 t480, .int .u64 t481, .int .u64 t482, .int .i64 t483, .int .i64 t484, .int .i64 t485, .int .u64 t486, .int .u64 t487, .int .i64 t488, .int .i64 t489, .int .i64 t490, .int .u64 t491, .int .u64 t492]) (ok := fun _ => True) (okp := fun _ => True) ?hr ?hp (fun _ hk => hk) trivial (Below.refl _ _) (Nat.le_refl _) (by simp) ?_; (case hd => rfl); (case hg => rfl); (case hr => first | (go_simp; done) | (go_simp; rfl)); (case hp => exact (Reps.c5 (show Kd.M k52 _ _ _ (⟨t433, t434, t435, (⟨t436, t437⟩ : S45)⟩ : S52) [.int .i64 t433, .int .i64 t434, .int .i64 t435, .int .u64 t436, .int .u64 t437] from (k52_mkM _ _ _ (⟨t433, t434, t435, (⟨t436, t437⟩ : S45)⟩ : S52) )) (Reps.c5 (show Kd.M k52 _ _ _ (⟨t439, t440, t441, (⟨t442, t443⟩ : S45)⟩ : S52) [.int .i64 t439, .int .i64 t440, .int .i64 t441, .int .u64 t442, .int .u64 t443] from (k52_mkM _ _ _ (⟨t439, t440, t441, (⟨t442, t443⟩ : S45)⟩ : S52) )) (Reps.c5 (show Kd.M k52 _ _ _ (⟨t445, t446, t447, (⟨t448, t449⟩ : S45)⟩ : S52) [.int .i64 t445, .int .i64 t446, .int .i64 t447, .int .u64 t448, .int .u64 t449] from (k52_mkM _ _ _ (⟨t445, t446, t447, (⟨t448, t449⟩ : S45)⟩ : S52) )) (Reps.c5 (show Kd.M k52 _ _ _ (⟨t450, t451, t452, (⟨t453, t454⟩ : S45)⟩ : S52) [.int .i64 t450, .int .i64 t451, .int .i64 t452, .int .u64 t453, .int .u64 t454] from (k52_mkM _ _ _ (⟨t450, t451, t452, (⟨t453, t454⟩ : S45)⟩ : S52) )) (Reps.c5 (show Kd.M k52 _ _ _ (⟨t455, t456, t457, (⟨t458, t459⟩ : S45)⟩ : S52) [.int .i64 t455, .int .i64 t456, .int .i64 t457, .int .u64 t458, .int .u64 t459] from (k52_mkM _ _ _ (⟨t455, t456, t457, (⟨t458, t459⟩ : S45)⟩ : S52) )) (Reps.c5 (show Kd.M k52 _ _ _ (⟨t461, t462, t463, (⟨t464, t465⟩ : S45)⟩ : S52) [.int .i64 t461, .int .i64 t462, .int .i64 t463, .int .u64 t464, .int .u64 t465] from (k52_mkM _ _ _ (⟨t461, t462, t463, (⟨t464, t465⟩ : S45)⟩ : S52) )) (Reps.c5 (show Kd.M k52 _ _ _ (⟨t467, t468, t469, (⟨t470, t471⟩ : S45)⟩ : S52) [.int .i64 t467, .int .i64 t468, .int .i64 t469, .int .u64 t470, .int .u64 t471] from (k52_mkM _ _ _ (⟨t467, t468, t469, (⟨t470, t471⟩ : S45)⟩ : S52) )) (Reps.c5 (show Kd.M k52 _ _ _ (⟨t473, t474, t475, (⟨t476, t477⟩ : S45)⟩ : S52) [.int .i64 t473, .int .i64 t474, .int .i64 t475, .int .u64 t476, .int .u64 t477] from (k52_mkM _ _ _ (⟨t473, t474, t475, (⟨t476, t477⟩ : S45)⟩ : S52) )) (Reps.c5 (show Kd.M k52 _ _ _ (⟨t478, t479, t480, (⟨t481, t482⟩ : S45)⟩ : S52) [.int .i64 t478, .int .i64 t479, .int .i64 t480, .int .u64 t481, .int .u64 t482] from (k52_mkM _ _ _ (⟨t478, t479, t480, (⟨t481, t482⟩ : S45)⟩ : S52) )) (Reps.c5 (show Kd.M k52 _ _ _ (⟨t483, t484, t485, (⟨t486, t487⟩ : S45)⟩ : S52) [.int .i64 t483, .int .i64 t484, .int .i64 t485, .int .u64 t486, .int .u64 t487] from (k52_mkM _ _ _ (⟨t483, t484, t485, (⟨t486, t487⟩ : S45)⟩ : S52) )) (Reps.c5 (show Kd.M k52 _ _ _ (⟨t488, t489, t490, (⟨t491, t492⟩ : S45)⟩ : S52) [.int .i64 t488, .int .i64 t489, .int .i64 t490, .int .u64 t491, .int .u64 t492] from (k52_mkM _ _ _ (⟨t488, t489, t490, (⟨t491, t492⟩ : S45)⟩ : S52) )) (Reps.none _ _)))))))))))))
             intro v494 w177 ho178 hb hg_ hnew_
             clear hg_ hnew_
             (first | rw [← Ny493.out] at ho178 | (simp only [Int.reduceToNat] at ho178; rw [← Ny493.out] at ho178))
             have n0_ := Aside0.mk (Kd.R_elder' (raA HO431.out) (Kd.R_base ho178) hb)
             have n1_ := Aside0.mk (Kd.R_lower (Kd.R_new' (Kd.R_newM (M := fun k_ => (w.heap.size ≤ k_)) ho178 (below_size (blA HB.out)) (fun k_ h_ => h_)) (Kd.R_lt (raA HO431.out))) (below_size (blA HB.out)))
             have n2_ := Aside0.mk (blk_below (bkA BK203.out) hb); have n3_ := Aside0.mk (blk_below (bkA BK204.out) hb); have n4_ := Aside0.mk (below_step (blA HB.out) hb); clear HO431; clear BK203; clear BK204; clear HB; have HO431 := n0_; have HO495 := n1_; have BK203 := n2_; have BK204 := n3_; have HB := n4_; clear n0_ n1_ n2_ n3_ n4_; clear hb ho178
             refine hK.out _ _ ⟨(clA HB.out hw432_0), (clA HB.out hw438_0), (clA HB.out hw444_0), (clA HB.out hw460_0), (clA HB.out hw466_0), (clA HB.out hw472_0)⟩ (fun hHeld => ?_)
             clear hK K
             refine normA ?_
             refine pureA 30 (some 8) HT_.out ?_
             refine done_ (done_of HT_.out (by kernel_rfl)) ?_
             obtain ⟨Ao179, co179, eo179⟩ := Kd.R_slice HO431.out; subst eo179; obtain ⟨Ao180, co180, eo180⟩ := Kd.R_slice HO495.out; subst eo180
             try go_wp2_with (first | ((with_reducible refine gate_dst (N := 169) rfl ?_); refine Kd.N_lit (Kd.slice 52 k52) _ 48 ?hg (N' := 169) ?hd (xs := ([y429, y493] : List (List (S52)))) (inner := [.slice Ao179 y429.length co179, .slice Ao180 y493.length co180]) (ok := (fun k_ => (w.heap.size ≤ k_) ∧ k_ ≠ gb203 ∧ k_ ≠ gb204)) (okp := (fun k_ => (w.heap.size ≤ k_) ∧ k_ ≠ gb203 ∧ k_ ≠ gb204)) ?hr ?hp (fun _ hk => hk) ((show ∀ k_, w177.heap.size ≤ k_ → (fun k_ => (w.heap.size ≤ k_) ∧ k_ ≠ gb203 ∧ k_ ≠ gb204) k_ from fun k_ hk => ⟨(Nat.le_trans (below_size (blA HB.out)) hk), Kd.freshB (bkA BK203.out) k_ hk, Kd.freshB (bkA BK204.out) k_ hk⟩) _ (Nat.le_refl _)) (Below.refl _ _) (Nat.le_refl _) (by simp) ?_; (case hd => rfl); (case hg => rfl); (case hr => first | (go_simp; done) | (go_simp; rfl)); (case hp => exact (Reps.one (show Kd.FK (Kd.slice 52 k52) _ _ y429 [.slice Ao179 y429.length co179] from (Kd.FK_slice_mk (Kd.R_reads' (Kd.R_mono (ok' := (fun k_ => (w.heap.size ≤ k_) ∧ k_ ≠ gb203 ∧ k_ ≠ gb204)) (Kd.R_types (Kd.R_types (HO431.out) BK203.out (by decide)) BK204.out (by decide)) (fun k_ hk => by first | exact ⟨hk.1.1.1.1, ⟨hk.1.2, hk.2⟩⟩ | exact ⟨hk.1.1.1, ⟨hk.1.2, hk.2⟩⟩))).2.1 (Kd.R_F (Kd.R_mono (ok' := (fun k_ => (w.heap.size ≤ k_) ∧ k_ ≠ gb203 ∧ k_ ≠ gb204)) (Kd.R_types (Kd.R_types (HO431.out) BK203.out (by decide)) BK204.out (by decide)) (fun k_ hk => by first | exact ⟨hk.1.1.1.1, ⟨hk.1.2, hk.2⟩⟩ | exact ⟨hk.1.1.1, ⟨hk.1.2, hk.2⟩⟩))))) (Reps.one (show Kd.FK (Kd.slice 52 k52) _ _ y493 [.slice Ao180 y493.length co180] from (Kd.FK_slice_mk (Kd.R_reads' (Kd.R_mono (ok' := (fun k_ => (w.heap.size ≤ k_) ∧ k_ ≠ gb203 ∧ k_ ≠ gb204)) (Kd.R_types (Kd.R_types (HO495.out) BK203.out (by decide)) BK204.out (by decide)) (fun k_ hk => by first | exact ⟨hk.1.1.1.1, ⟨hk.1.2, hk.2⟩⟩ | exact ⟨hk.1.1.1, ⟨hk.1.2, hk.2⟩⟩))).2.1 (Kd.R_F (Kd.R_mono (ok' := (fun k_ => (w.heap.size ≤ k_) ∧ k_ ≠ gb203 ∧ k_ ≠ gb204)) (Kd.R_types (Kd.R_types (HO495.out) BK203.out (by decide)) BK204.out (by decide)) (fun k_ hk => by first | exact ⟨hk.1.1.1.1, ⟨hk.1.2, hk.2⟩⟩ | exact ⟨hk.1.1.1, ⟨hk.1.2, hk.2⟩⟩))))) (Reps.none _ _)))); intro v497 w181 ho182 hb hg_ hnew_; clear hg_ hnew_; (first | rw [← Ny496.out] at ho182 | (simp only [Int.reduceToNat] at ho182; rw [← Ny496.out] at ho182)); have n0_ := Aside0.mk (Kd.N_lower ho182 (below_size (blA HB.out))); have n1_ := Aside0.mk (blk_below (bkA BK203.out) hb); have n2_ := Aside0.mk (blk_below (bkA BK204.out) hb); have n3_ := Aside0.mk (below_step (blA HB.out) hb); clear BK203; clear BK204; clear HB; clear HO431; clear HO495; have HO498 := n0_; have BK203 := n1_; have BK204 := n2_; have HB := n3_; clear n0_ n1_ n2_ n3_; clear hb ho182))
             go_ret
             exact ⟨_, by first | rfl | (simp [errW_none, errW_some] <;> rfl) | (simp [*, errW_none, errW_some] <;> rfl), by (with_reducible repeat (first | apply Kd.N_alloc | apply Kd.N_drewN | apply Kd.N_drew)); exact Kd.N_mono HO498.out (fun _ hk => hk.1), blA HB.out⟩
            ·rw [if_neg c140] at H
             exact absurd H (by simp)
           ·rw [if_neg c137] at H
            exact absurd H (by simp)
          ·rw [if_neg c134] at H
           exact absurd H (by simp)
         ·rw [if_neg c131] at H
          exact absurd H (by simp)
        ·rw [if_neg c129] at H
         exact absurd H (by simp)
end Go.Proofs.Ythiiodgpdoljoaa.PLc
namespace Go.Proofs.Ythiiodgpdoljoaa.Pure
open Go.RowKit Go.Proofs.Ythiiodgpdoljoaa.PLc Go.Proofs.YthiiodgpdoljoaaW.PrintWords Go.Proofs.YthiiodgpdoljoaaW.PrintLast
set_option linter.unusedVariables false
set_option linter.unusedSimpArgs false
def toC (x : S76) : S47 := ⟨x.f0, x.f1, x.f2, ⟨x.f3.f0, x.f3.f1⟩⟩
def toO (x : S118) : S52 := ⟨x.f0, x.f1, x.f2, ⟨x.f3.f0, x.f3.f1⟩⟩
def zv (x : S76) : Prop := x.f3.f0 = 0 ∧ x.f3.f1 = 0
theorem rd47 (l : List S76) (i : Nat) (h : i < l.length) : rd_T47 (l.map toC) (i : Int) = toC l[i] := by simp [rd_T47, List.getD_eq_getElem?_getD, h]
theorem own_zv (w : Int) (g : S105) : ∀ x ∈ own w g, zv x := by
  intro x hx
  unfold own at hx
  split at hx
  · simp at hx; rcases hx with rfl | rfl <;> exact ⟨rfl, rfl⟩
  split at hx
  · simp at hx; rcases hx with rfl | rfl <;> exact ⟨rfl, rfl⟩
  split at hx
  · simp at hx; rcases hx with rfl | rfl <;> exact ⟨rfl, rfl⟩
  split at hx
  · simp at hx; rcases hx with rfl | rfl | rfl | rfl | rfl <;> exact ⟨rfl, rfl⟩
  split at hx
  · simp at hx; rcases hx with rfl | rfl | rfl | rfl <;> exact ⟨rfl, rfl⟩
  · simp at hx; rcases hx with rfl | rfl | rfl <;> exact ⟨rfl, rfl⟩
theorem own_len (w : Int) (g : S105) : (own w g).length ≤ 5 := by
  unfold own
  split; · simp
  split; · simp
  split; · simp
  split; · simp
  split <;> simp
theorem refOwn (m : Nat) (w a1 a2 a3 a4 : Int) (l : List S106) (g : S105) (h1 : 1 ≤ g.f0) (h8 : g.f0 ≤ 8) (hw : 0 ≤ w) :
    steepleref25_System_Own.f (m + 1) w a1 a2 a3 a4 l (toG g).f0 (toG g).f1 (toG g).f2 (toG g).f3 (toG g).f4 = some ((own w g).map toC) := by
  obtain ⟨f0, f1, f2, f3, f4⟩ := g
  simp only at h1 h8
  have hf : f0 = 1 ∨ f0 = 2 ∨ f0 = 3 ∨ f0 = 4 ∨ f0 = 5 ∨ f0 = 6 ∨ f0 = 7 ∨ f0 = 8 := by omega
  rcases hf with rfl | rfl | rfl | rfl | rfl | rfl | rfl | rfl
  case inr.inr.inr.inr.inr.inr.inl =>
    by_cases hw0 : w = 0
    · subst hw0; simp [steepleref25_System_Own.f, steepleref25_System_Own.j0, steepleref25_shifts.f, own, toG, toC, wrap64]
    · have : w > 0 := by omega
      simp [steepleref25_System_Own.f, steepleref25_System_Own.j0, steepleref25_shifts.f, own, toG, toC, wrap64, hw0, this]
  all_goals simp [steepleref25_System_Own.f, steepleref25_System_Own.j0, steepleref25_shifts.f, own, toG, toC, wrap64]
theorem eq76_zv {x y : S76} (hx : zv x) (hy : zv y) : eq76 x y = true ↔ (y.f0 = x.f0 ∧ y.f1 = x.f1 ∧ y.f2 = x.f2) := by
  obtain ⟨x0, x1, x2, x3, x4⟩ := x
  obtain ⟨y0, y1, y2, y3, y4⟩ := y
  obtain ⟨h1, h2⟩ := hx
  obtain ⟨h3, h4⟩ := hy
  simp only at h1 h2 h3 h4
  subst h1 h2 h3 h4
  simp [eq76]
  grind
def refIdx (l : List S76) (x : S76) : Int := if wIdx l x < l.length then (wIdx l x : Int) else -1
theorem findLoop (x : S76) (v0 v1 : Int) (hx : zv x) (l : List S76) (hz : ∀ y ∈ l, zv y) (hl : l.length ≤ 1000) (d : Nat) : ∀ (k i : Nat), l.length - i = d → i ≤ l.length → d < k →
    steepleref25_find.l0 k (l.map toC) (i : Int) x.f0 x.f1 x.f2 v0 v1 = some (if wIdx (l.drop i) x < (l.drop i).length then ((i + wIdx (l.drop i) x : Nat) : Int) else -1) := by
  induction d with
  | zero =>
    intro k i hd hi hk
    obtain ⟨k, rfl⟩ : ∃ m, k = m + 1 := ⟨k - 1, by omega⟩
    simp only [steepleref25_find.l0, List.length_map]
    rw [if_neg (by omega), List.drop_of_length_le (by omega)]
    simp
  | succ d ih =>
    intro k i hd hi hk
    obtain ⟨k, rfl⟩ : ∃ m, k = m + 1 := ⟨k - 1, by omega⟩
    have hlt : i < l.length := by omega
    have hd' := List.drop_eq_getElem_cons hlt
    have he := eq76_zv hx (hz l[i] (List.getElem_mem hlt))
    have hr := ih k (i + 1) (by omega) (by omega) (by omega)
    simp only [steepleref25_find.l0, List.length_map]
    rw [if_pos (by omega), if_pos (by omega), rd47 l i hlt, w64 (by omega) (by omega), hd']
    have hc : ((i : Int) + 1) = ((i + 1 : Nat) : Int) := by omega
    rw [hc, hr]
    by_cases h : eq76 x l[i] = true
    · obtain ⟨e0, e1, e2⟩ := he.mp h
      rw [if_pos (show (toC l[i]).f0 = x.f0 from e0), if_pos (show (toC l[i]).f1 = x.f1 from e1), if_pos (show (toC l[i]).f2 = x.f2 from e2)]
      have e : wIdx (l[i] :: l.drop (i + 1)) x = 0 := by simp only [wIdx, List.findIdx_cons, h, cond_true]
      rw [e, List.length_cons, if_pos (by omega), Nat.add_zero]
    · have hn : ¬ (l[i].f0 = x.f0 ∧ l[i].f1 = x.f1 ∧ l[i].f2 = x.f2) := fun e => h (he.mpr e)
      have h' : eq76 x l[i] = false := by simpa using h
      have hq : (if wIdx (l[i] :: l.drop (i + 1)) x < (l[i] :: l.drop (i + 1)).length then ((i + wIdx (l[i] :: l.drop (i + 1)) x : Nat) : Int) else -1) = (if wIdx (l.drop (i + 1)) x < (l.drop (i + 1)).length then ((i + 1 + wIdx (l.drop (i + 1)) x : Nat) : Int) else -1) := by
        have e : wIdx (l[i] :: l.drop (i + 1)) x = wIdx (l.drop (i + 1)) x + 1 := by simp only [wIdx, List.findIdx_cons, h', cond_false]
        rw [e, List.length_cons]
        by_cases hq : wIdx (l.drop (i + 1)) x < (l.drop (i + 1)).length
        · rw [if_pos (by omega), if_pos hq]; omega
        · rw [if_neg (by omega), if_neg hq]
      rw [hq]
      by_cases e0 : l[i].f0 = x.f0
      · rw [if_pos (show (toC l[i]).f0 = x.f0 from e0)]
        by_cases e1 : l[i].f1 = x.f1
        · rw [if_pos (show (toC l[i]).f1 = x.f1 from e1)]
          by_cases e2 : l[i].f2 = x.f2
          · exact absurd ⟨e0, e1, e2⟩ hn
          · rw [if_neg (show ¬ (toC l[i]).f2 = x.f2 from e2)]
        · rw [if_neg (show ¬ (toC l[i]).f1 = x.f1 from e1)]
      · rw [if_neg (show ¬ (toC l[i]).f0 = x.f0 from e0)]
theorem refFind (k : Nat) (x : S76) (hx : zv x) (l : List S76) (hz : ∀ y ∈ l, zv y) (hl : l.length ≤ 1000) (hk : l.length < k) :
    steepleref25_find.f k (l.map toC) (toC x).f0 (toC x).f1 (toC x).f2 (toC x).f3.f0 (toC x).f3.f1 = some (refIdx l x) := by
  unfold steepleref25_find.f refIdx
  have := findLoop x (toC x).f3.f0 (toC x).f3.f1 hx l hz hl l.length k 0 (by omega) (by omega) hk
  simpa [toC] using this
theorem wAdd_zv {ws : List S76} {x : S76} (hz : ∀ y ∈ ws, zv y) (hx : zv x) : ∀ y ∈ wAdd ws x, zv y := by
  unfold wAdd
  split
  · exact hz
  · intro y hy; rw [List.mem_append] at hy; rcases hy with hy | hy
    · exact hz y hy
    · rw [List.mem_singleton.mp hy]; exact hx
theorem wAdd_len (ws : List S76) (x : S76) : (wAdd ws x).length ≤ ws.length + 1 := by unfold wAdd; split <;> simp
theorem fold_zv (xs : List S76) : ∀ ws : List S76, (∀ y ∈ ws, zv y) → (∀ y ∈ xs, zv y) → (∀ y ∈ xs.foldl wAdd ws, zv y) ∧ (xs.foldl wAdd ws).length ≤ ws.length + xs.length := by
  induction xs with
  | nil => exact fun ws h _ => ⟨h, by simp⟩
  | cons x xs ih =>
    intro ws h hx
    have := ih (wAdd ws x) (wAdd_zv h (hx x (by simp))) (fun y hy => hx y (by simp [hy]))
    have h2 := wAdd_len ws x
    exact ⟨this.1, by rw [List.foldl_cons, List.length_cons]; omega⟩
theorem rwInner (w a1 a2 a3 a4 : Int) (l : List S106) (x4 : Int) (o : List S76) (hoz : ∀ y ∈ o, zv y) (ho : o.length ≤ 5) (d : Nat) : ∀ (K j : Nat) (ws : List S76), o.length - j = d → j ≤ o.length → (∀ y ∈ ws, zv y) → ws.length + d ≤ 900 → ws.length + d < K →
    steepleref25_Wires.l1 (K + d + 1) (ws.map toC) x4 (o.map toC) (j : Int) w a1 a2 a3 a4 l = steepleref25_Wires.l0 K (((o.drop j).foldl wAdd ws).map toC) (wrap64 (x4 + 1)) w a1 a2 a3 a4 l := by
  induction d with
  | zero =>
    intro K j ws hd hj hz hb hK
    simp only [Nat.add_zero, steepleref25_Wires.l1, List.length_map]
    rw [if_neg (by omega), List.drop_of_length_le (by omega)]
    rfl
  | succ d ih =>
    intro K j ws hd hj hz hb hK
    have hlt : j < o.length := by omega
    have hx := hoz o[j] (List.getElem_mem hlt)
    obtain ⟨q, hq⟩ : ∃ q, K + d + 1 = q := ⟨_, rfl⟩
    rw [show K + (d + 1) + 1 = q + 1 from by omega]
    simp only [steepleref25_Wires.l1, List.length_map]
    rw [if_pos (by omega), if_pos (by omega), rd47 o j hlt, refFind q o[j] hx ws hz (by omega) (by omega), w64 (x := (j : Int) + 1) (by omega) (by omega)]
    simp only [Option.bind_some]
    rw [List.drop_eq_getElem_cons hlt, List.foldl_cons]
    have hr := ih K (j + 1) (wAdd ws o[j]) (by omega) (by omega) (wAdd_zv hz hx) (by have := wAdd_len ws o[j]; omega) (by have := wAdd_len ws o[j]; omega)
    rw [hq] at hr
    rw [← hr]
    unfold refIdx wAdd
    by_cases h : wIdx ws o[j] < ws.length
    · rw [if_pos h, if_pos h, if_neg (by omega)]; rfl
    · rw [if_neg h, if_neg h, if_pos (by omega), if_pos (by omega), List.map_append]; rfl
theorem rd106' (l : List S105) (i : Nat) (h : i < l.length) : rd_T106 (l.map toG) (i : Int) = toG l[i] := by simp [rd_T106, List.getD_eq_getElem?_getD, h]
theorem rwOuter (w a1 a2 a3 a4 : Int) (l : List S105) (hk : ∀ g ∈ l, 1 ≤ g.f0 ∧ g.f0 ≤ 8) (hw : 0 ≤ w) (hl : l.length ≤ 40) (d : Nat) : ∀ (k i : Nat) (ws : List S76), l.length - i = d → i ≤ l.length → (∀ y ∈ ws, zv y) → ws.length + 5 * d ≤ 600 → 7 * d + 700 < k →
    steepleref25_Wires.l0 k (ws.map toC) (i : Int) w a1 a2 a3 a4 (l.map toG) = some ((wiresOf w (l.drop i) ws).map toC) := by
  induction d with
  | zero =>
    intro k i ws hd hi hz hb hK
    obtain ⟨k, rfl⟩ : ∃ m, k = m + 1 := ⟨k - 1, by omega⟩
    simp only [steepleref25_Wires.l0, List.length_map]
    rw [if_neg (by omega), List.drop_of_length_le (by omega)]
    rfl
  | succ d ih =>
    intro k i ws hd hi hz hb hK
    have hlt : i < l.length := by omega
    have hg := hk l[i] (List.getElem_mem hlt)
    have ho := own_len w l[i]
    have hoz := own_zv w l[i]
    obtain ⟨k, rfl⟩ : ∃ m, k = m + (own w l[i]).length + 1 + 1 := ⟨k - ((own w l[i]).length + 1 + 1), by omega⟩
    simp only [steepleref25_Wires.l0, List.length_map]
    rw [if_pos (by omega), if_pos (by omega), rd106' l i hlt, refOwn _ w a1 a2 a3 a4 _ l[i] hg.1 hg.2 hw]
    simp only [Option.bind_some]
    have hr := rwInner w a1 a2 a3 a4 (l.map toG) (i : Int) (own w l[i]) hoz ho (own w l[i]).length k 0 ws (by omega) (by omega) hz (by omega) (by omega)
    have hf := fold_zv (own w l[i]) ws hz hoz
    rw [show ((0 : Nat) : Int) = 0 from rfl] at hr
    rw [hr, List.drop_zero, w64 (by omega) (by omega), List.drop_eq_getElem_cons hlt]
    have := ih k (i + 1) ((own w l[i]).foldl wAdd ws) (by omega) (by omega) hf.1 (by omega) (by omega)
    exact this
theorem refWires (k : Nat) (w a1 a2 a3 a4 : Int) (l : List S105) (hk : ∀ g ∈ l, 1 ≤ g.f0 ∧ g.f0 ≤ 8) (hw : 0 ≤ w) (hl : l.length ≤ 40) (hK : 1000 < k) :
    steepleref25_Wires.f k w a1 a2 a3 a4 (l.map toG) = some ((wiresOf w l []).map toC) := by
  unfold steepleref25_Wires.f
  have := rwOuter w a1 a2 a3 a4 l hk hw hl l.length k 0 [] (by omega) (by omega) (by simp) (by simp; omega) (by omega)
  simpa using this
end Go.Proofs.Ythiiodgpdoljoaa.Pure
namespace Go.Proofs.Ythiiodgpdoljoaa.PLc
open Go.RowKit Go.Proofs.YthiiodgpdoljoaaW.PrintWords Go.Proofs.YthiiodgpdoljoaaW.PrintLast Go.Proofs.YthiiodgpdoljoaaW.PrintMore
attribute [local go_sem] max2_int min2_int max_two min_two max_three min_three max_four min_four   -- for this text's walks alone
set_option linter.unusedVariables false
set_option linter.unusedSimpArgs false
/-! ### steepleref25_Conds: function 18 -/
mutual
def steepleref25_Conds.l0 : Nat → List (List (S52)) → List (S47) → Int → Int → Int → Int → Int → Int → List (S106) → Option ((List (List (S52))))
 | 0, _, _, _, _, _, _, _, _, _ => none
 | k + 1, x3, x4, x5, x500000, x500001, x500002, x500003, x500004, x500005 => if x5 < (x500005.length : Int) then (if 0 ≤ x5 then ((steepleref25_System_Own.f k x500000 x500001 x500002 x500003 x500004 x500005 ((rd_T106 x500005 x5).f0) ((rd_T106 x500005 x5).f1) ((rd_T106 x500005 x5).f2) ((rd_T106 x500005 x5).f3) ((rd_T106 x500005 x5).f4)).bind fun t504 => (steepleref25_Conds.l1 k x3 x4 x5 t504 ([] : List Int) 0 x500000 x500001 x500002 x500003 x500004 x500005)) else (none)) else (some x3)
def steepleref25_Conds.l1 : Nat → List (List (S52)) → List (S47) → Int → List (S47) → List Int → Int → Int → Int → Int → Int → Int → List (S106) → Option ((List (List (S52))))
 | 0, _, _, _, _, _, _, _, _, _, _, _, _ => none
 | k + 1, x3, x4, x5, x6, x7, x8, x500000, x500001, x500002, x500003, x500004, x500005 => if x8 < (x6.length : Int) then (if 0 ≤ x8 then ((steepleref25_find.f k x4 ((rd_T47 x6 x8).f0) ((rd_T47 x6 x8).f1) ((rd_T47 x6 x8).f2) ((rd_T47 x6 x8).f3.f0) ((rd_T47 x6 x8).f3.f1)).bind fun t508 => (if x7.length < 17592186044416 then (steepleref25_Conds.l1 k x3 x4 x5 x6 (x7 ++ [t508]) (wrap64 (x8 + 1)) x500000 x500001 x500002 x500003 x500004 x500005) else (none))) else (none)) else (if 0 ≤ x5 then (if x5 < (x500005.length : Int) then ((steepleref25_System_Laid.f k x500000 x500001 x500002 x500003 x500004 x500005 ((rd_T106 x500005 x5).f0) ((rd_T106 x500005 x5).f1) ((rd_T106 x500005 x5).f2) ((rd_T106 x500005 x5).f3) ((rd_T106 x500005 x5).f4) x7).bind fun t513 => (steepleref25_Conds.l2 k x3 x4 x5 t513 0 x500000 x500001 x500002 x500003 x500004 x500005)) else (none)) else (none))
def steepleref25_Conds.l2 : Nat → List (List (S52)) → List (S47) → Int → List (List (S52)) → Int → Int → Int → Int → Int → Int → List (S106) → Option ((List (List (S52))))
 | 0, _, _, _, _, _, _, _, _, _, _, _ => none
 | k + 1, x3, x4, x5, x9, x10, x500000, x500001, x500002, x500003, x500004, x500005 => if x10 < (x9.length : Int) then (if 0 ≤ x10 then (if x3.length < 5864062014805 then (steepleref25_Conds.l2 k (x3 ++ [rd_L16 x9 x10]) x4 x5 x9 (wrap64 (x10 + 1)) x500000 x500001 x500002 x500003 x500004 x500005) else (none)) else (none)) else (steepleref25_Conds.l0 k x3 x4 (wrap64 (x5 + 1)) x500000 x500001 x500002 x500003 x500004 x500005)
end
def steepleref25_Conds.f (k : Nat) (a0_0 : Int) (a0_1 : Int) (a0_2 : Int) (a0_3 : Int) (a0_4 : Int) (l0_5 : List (S106)) : Option ((List (List (S52)))) := (steepleref25_Wires.f k a0_0 a0_1 a0_2 a0_3 a0_4 l0_5).bind fun t500 => (steepleref25_Conds.l0 k ([] : List (List (S52))) t500 0 a0_0 a0_1 a0_2 a0_3 a0_4 l0_5)
theorem steepleref25_Conds.mono_l : ∀ k, (∀ y0 y1 y2 y3 y4 y5 y6 y7 y8, LeO (steepleref25_Conds.l0 k y0 y1 y2 y3 y4 y5 y6 y7 y8) (steepleref25_Conds.l0 (k + 1) y0 y1 y2 y3 y4 y5 y6 y7 y8)) ∧ (∀ y0 y1 y2 y3 y4 y5 y6 y7 y8 y9 y10 y11, LeO (steepleref25_Conds.l1 k y0 y1 y2 y3 y4 y5 y6 y7 y8 y9 y10 y11) (steepleref25_Conds.l1 (k + 1) y0 y1 y2 y3 y4 y5 y6 y7 y8 y9 y10 y11)) ∧ (∀ y0 y1 y2 y3 y4 y5 y6 y7 y8 y9 y10, LeO (steepleref25_Conds.l2 k y0 y1 y2 y3 y4 y5 y6 y7 y8 y9 y10) (steepleref25_Conds.l2 (k + 1) y0 y1 y2 y3 y4 y5 y6 y7 y8 y9 y10))
 | 0 => ⟨fun _ _ _ _ _ _ _ _ _ r h => by simp [steepleref25_Conds.l0] at h, fun _ _ _ _ _ _ _ _ _ _ _ _ r h => by simp [steepleref25_Conds.l1] at h, fun _ _ _ _ _ _ _ _ _ _ _ r h => by simp [steepleref25_Conds.l2] at h⟩
 | k + 1 => by
  obtain ⟨ih0, ih1, ih2⟩ := steepleref25_Conds.mono_l k
  refine ⟨?_, ?_, ?_⟩
  ·intro y0 y1 y2 y3 y4 y5 y6 y7 y8
   unfold steepleref25_Conds.l0
   repeat' first
   | (with_reducible exact ih0 _ _ _ _ _ _ _ _ _)
   | (with_reducible exact ih1 _ _ _ _ _ _ _ _ _ _ _ _)
   | (with_reducible exact ih2 _ _ _ _ _ _ _ _ _ _ _)
   | (with_reducible exact steepleref25_System_Laid.mono _ _ _ _ _ _ _ _ _ _ _ _ _)
   | (with_reducible exact steepleref25_System_Own.mono _ _ _ _ _ _ _ _ _ _ _ _)
   | (with_reducible exact steepleref25_Wires.mono _ _ _ _ _ _ _)
   | (with_reducible exact steepleref25_find.mono _ _ _ _ _ _ _)
   | (with_reducible exact LeO.refl _)
   | (with_reducible exact LeO.none _)
   | (with_reducible refine LeO.ite ?_ ?_)
   | (with_reducible refine LeO.bind ?_ (fun _ => ?_))
   | exact ih0 _ _ _ _ _ _ _ _ _
   | exact ih1 _ _ _ _ _ _ _ _ _ _ _ _
   | exact ih2 _ _ _ _ _ _ _ _ _ _ _
   | exact steepleref25_System_Laid.mono _ _ _ _ _ _ _ _ _ _ _ _ _
   | exact steepleref25_System_Own.mono _ _ _ _ _ _ _ _ _ _ _ _
   | exact steepleref25_Wires.mono _ _ _ _ _ _ _
   | exact steepleref25_find.mono _ _ _ _ _ _ _
   | exact LeO.none _
   | refine LeO.ite ?_ ?_
   | refine LeO.bind ?_ (fun _ => ?_)
  ·intro y0 y1 y2 y3 y4 y5 y6 y7 y8 y9 y10 y11
   unfold steepleref25_Conds.l1
   repeat' first
   | (with_reducible exact ih0 _ _ _ _ _ _ _ _ _)
   | (with_reducible exact ih1 _ _ _ _ _ _ _ _ _ _ _ _)
   | (with_reducible exact ih2 _ _ _ _ _ _ _ _ _ _ _)
   | (with_reducible exact steepleref25_System_Laid.mono _ _ _ _ _ _ _ _ _ _ _ _ _)
   | (with_reducible exact steepleref25_System_Own.mono _ _ _ _ _ _ _ _ _ _ _ _)
   | (with_reducible exact steepleref25_Wires.mono _ _ _ _ _ _ _)
   | (with_reducible exact steepleref25_find.mono _ _ _ _ _ _ _)
   | (with_reducible exact LeO.refl _)
   | (with_reducible exact LeO.none _)
   | (with_reducible refine LeO.ite ?_ ?_)
   | (with_reducible refine LeO.bind ?_ (fun _ => ?_))
   | exact ih0 _ _ _ _ _ _ _ _ _
   | exact ih1 _ _ _ _ _ _ _ _ _ _ _ _
   | exact ih2 _ _ _ _ _ _ _ _ _ _ _
   | exact steepleref25_System_Laid.mono _ _ _ _ _ _ _ _ _ _ _ _ _
   | exact steepleref25_System_Own.mono _ _ _ _ _ _ _ _ _ _ _ _
   | exact steepleref25_Wires.mono _ _ _ _ _ _ _
   | exact steepleref25_find.mono _ _ _ _ _ _ _
   | exact LeO.none _
   | refine LeO.ite ?_ ?_
   | refine LeO.bind ?_ (fun _ => ?_)
  ·intro y0 y1 y2 y3 y4 y5 y6 y7 y8 y9 y10
   unfold steepleref25_Conds.l2
   repeat' first
   | (with_reducible exact ih0 _ _ _ _ _ _ _ _ _)
   | (with_reducible exact ih1 _ _ _ _ _ _ _ _ _ _ _ _)
   | (with_reducible exact ih2 _ _ _ _ _ _ _ _ _ _ _)
   | (with_reducible exact steepleref25_System_Laid.mono _ _ _ _ _ _ _ _ _ _ _ _ _)
   | (with_reducible exact steepleref25_System_Own.mono _ _ _ _ _ _ _ _ _ _ _ _)
   | (with_reducible exact steepleref25_Wires.mono _ _ _ _ _ _ _)
   | (with_reducible exact steepleref25_find.mono _ _ _ _ _ _ _)
   | (with_reducible exact LeO.refl _)
   | (with_reducible exact LeO.none _)
   | (with_reducible refine LeO.ite ?_ ?_)
   | (with_reducible refine LeO.bind ?_ (fun _ => ?_))
   | exact ih0 _ _ _ _ _ _ _ _ _
   | exact ih1 _ _ _ _ _ _ _ _ _ _ _ _
   | exact ih2 _ _ _ _ _ _ _ _ _ _ _
   | exact steepleref25_System_Laid.mono _ _ _ _ _ _ _ _ _ _ _ _ _
   | exact steepleref25_System_Own.mono _ _ _ _ _ _ _ _ _ _ _ _
   | exact steepleref25_Wires.mono _ _ _ _ _ _ _
   | exact steepleref25_find.mono _ _ _ _ _ _ _
   | exact LeO.none _
   | refine LeO.ite ?_ ?_
   | refine LeO.bind ?_ (fun _ => ?_)
theorem steepleref25_Conds.mono : ∀ a0 a1 a2 a3 a4 a5 k, LeO (steepleref25_Conds.f k a0 a1 a2 a3 a4 a5) (steepleref25_Conds.f (k + 1) a0 a1 a2 a3 a4 a5) := by
 intro a0 a1 a2 a3 a4 a5 k
 obtain ⟨ih0, ih1, ih2⟩ := steepleref25_Conds.mono_l k
 unfold steepleref25_Conds.f
 repeat' first
   | (with_reducible exact ih0 _ _ _ _ _ _ _ _ _)
   | (with_reducible exact ih1 _ _ _ _ _ _ _ _ _ _ _ _)
   | (with_reducible exact ih2 _ _ _ _ _ _ _ _ _ _ _)
   | (with_reducible exact steepleref25_System_Laid.mono _ _ _ _ _ _ _ _ _ _ _ _ _)
   | (with_reducible exact steepleref25_System_Own.mono _ _ _ _ _ _ _ _ _ _ _ _)
   | (with_reducible exact steepleref25_Wires.mono _ _ _ _ _ _ _)
   | (with_reducible exact steepleref25_find.mono _ _ _ _ _ _ _)
   | (with_reducible exact LeO.refl _)
   | (with_reducible exact LeO.none _)
   | (with_reducible refine LeO.ite ?_ ?_)
   | (with_reducible refine LeO.bind ?_ (fun _ => ?_))
   | exact ih0 _ _ _ _ _ _ _ _ _
   | exact ih1 _ _ _ _ _ _ _ _ _ _ _ _
   | exact ih2 _ _ _ _ _ _ _ _ _ _ _
   | exact steepleref25_System_Laid.mono _ _ _ _ _ _ _ _ _ _ _ _ _
   | exact steepleref25_System_Own.mono _ _ _ _ _ _ _ _ _ _ _ _
   | exact steepleref25_Wires.mono _ _ _ _ _ _ _
   | exact steepleref25_find.mono _ _ _ _ _ _ _
   | exact LeO.none _
   | refine LeO.ite ?_ ?_
   | refine LeO.bind ?_ (fun _ => ?_)
def steepleref25_Conds.T6 : Bool × List (List Nat × List Nat) := (true, [([], []), ([], []), ([1], [1]), ([], []), ([2, 3], [2, 3]), ([4], [4]), ([0, 5], [0, 5]), ([6, 6, 0, 1, 2, 3, 4, 5, 6], [6])])
def steepleref25_Conds.B6 : List Nat := [0, 0, 2, 0, 14, 30, 63, 127]
theorem steepleref25_Conds.tab6 : rtab .any (opsOf Try.f18 6) = steepleref25_Conds.T6 := by kernel_rfl
theorem steepleref25_Conds.bits6 : waitsOk steepleref25_Conds.T6.2 steepleref25_Conds.B6 = true := by kernel_rfl
def steepleref25_Conds.T12 : Bool × List (List Nat × List Nat) := (true, [([], []), ([], []), ([1], [1]), ([], []), ([2, 3], [2, 3]), ([4], [4]), ([], []), ([0, 5, 6], [0, 5, 6]), ([7, 7, 0, 1, 2, 3, 4, 5, 6, 7], [7])])
def steepleref25_Conds.B12 : List Nat := [0, 0, 2, 0, 14, 30, 0, 127, 255]
theorem steepleref25_Conds.tab12 : rtab .any (opsOf Try.f18 12) = steepleref25_Conds.T12 := by kernel_rfl
theorem steepleref25_Conds.bits12 : waitsOk steepleref25_Conds.T12.2 steepleref25_Conds.B12 = true := by kernel_rfl
set_option maxHeartbeats 8000000 in
set_option maxRecDepth 100000 in
theorem steepleref25_Conds.calls (k : Nat) (a0_0 : Int) (a0_1 : Int) (a0_2 : Int) (a0_3 : Int) (a0_4 : Int) (A0_5 : Option Addr) (c0_5 : Nat) (l0_5 : List (S106)) (r : List (List (S52))) (w : World) (hr0_5 : Kd.C k106 w A0_5 l0_5.length l0_5) (hc0_5 : l0_5.length ≤ c0_5) (h : steepleref25_Conds.f k a0_0 a0_1 a0_2 a0_3 a0_4 l0_5 = some r) :
  Calls Try.prog 18 #[.agg #[.int .i64 a0_0, .int .i64 a0_1, .int .i64 a0_2, .int .i64 a0_3, .int .i64 a0_4, .slice A0_5 l0_5.length c0_5]] w fun e w' => ∃ v0_ : Value, e = .returned (v0_) ∧ Kd.N (Kd.slice 52 k52) 48 w' w.heap.size (fun k_ => (w.heap.size ≤ k_)) v0_ r ∧ Below w.heap.size w w' := by
 have hu28 := Try.underlying28; have hu106 := Try.underlying106; have hu47 := Try.underlying47; have HR0_5 := Aside0.mk hr0_5; have HC0_5 := Aside0.mk hc0_5; clear hr0_5 hc0_5; have HB := Aside0.mk (Below.refl w.heap.size w)
 have H : ((steepleref25_Wires.f k a0_0 a0_1 a0_2 a0_3 a0_4 l0_5).bind fun t500 => (steepleref25_Conds.l0 k ([] : List (List (S52))) t500 0 a0_0 a0_1 a0_2 a0_3 a0_4 l0_5)) = some r := h
 clear h; replace H := Option.bind_eq_some_iff.mp H; obtain ⟨t500, A20, H⟩ := H; replace H : (steepleref25_Conds.l0 k ([] : List (List (S52))) t500 0 a0_0 a0_1 a0_2 a0_3 a0_4 l0_5) = some r := H; have A2 := Aside0.mk A20; clear A20; have H' := Aside0.mk H; clear H
 go_enter Try.func18, Try.ntmps18
 go_wp2_with (first | ((with_reducible refine gate_dst (N := 1) rfl ?_); refine box_event ?hg (N := 1) ?hd (cs := #[.int .i64 a0_0, .int .i64 a0_1, .int .i64 a0_2, .int .i64 a0_3, .int .i64 a0_4, .slice A0_5 l0_5.length c0_5]) (t := 28) ?hr ?_; (case hd => rfl); (case hg => rfl); (case hr => first | (go_simp; done) | (go_simp; rfl)); intro gb499 hg w3 hbox hb; have n0_ := Aside0.mk (below_step (blA HB.out) hb); have n1_ := Aside0.mk (hbox); have n2_ := Aside0.mk ((by rw [hg]; exact (below_size (blA HB.out)) : w.heap.size ≤ gb499)); have n3_ := Aside0.mk ((by rw [hg]; exact (below_size (blA HB.out)) : w.heap.size ≤ gb499)); clear HB; have HB := n0_; have BK499 := n1_; have GW499 := n2_; have GE499 := n3_; clear n0_ n1_ n2_ n3_; clear hb hbox hg; have hcz4 := fun i => blk_cell BK499.out i; have hfz4 := fun i => blk_frozen BK499.out i; ) | ((with_reducible refine gate_callee (f := 17) rfl ?_); refine goesL_ (some 12) rfl rfl Try.func17 (by kernel_rfl) rfl #[.agg #[.int .i64 a0_0, .int .i64 a0_1, .int .i64 a0_2, .int .i64 a0_3, .int .i64 a0_4, .slice A0_5 l0_5.length c0_5]] rfl gsA ?_; (with_reducible refine (steepleref25_Wires.calls k a0_0 a0_1 a0_2 a0_3 a0_4 _ _ l0_5 t500 _ ?side1 ?side2 A2.out).mono ?_); (case side1 => repeat (first | exact (Kd.C_below HR0_5.out HB.out) | (with_reducible refine Kd.C_alloc ?_ _) | (with_reducible refine Kd.C_drewN ?_ _) | (with_reducible refine Kd.C_drew ?_))); (case side2 => exact HC0_5.out); rintro e w5 ⟨v501, rfl, ho0, hb⟩; refine ⟨_, rfl, ?_⟩; have n0_ := Aside0.mk (Kd.R_lower (Kd.R_newM (M := fun k_ => (w.heap.size ≤ k_)) ho0 (below_size (blA HB.out)) (fun k_ h_ => h_)) (below_size (blA HB.out))); have n1_ := Aside0.mk (blk_below (bkA BK499.out) hb); have n2_ := Aside0.mk (below_step (blA HB.out) hb); clear BK499; clear HB; have HO502 := n0_; have BK499 := n1_; have HB := n2_; clear n0_ n1_ n2_; (try clear hb); (try clear ho0)))
 go_loopg [3, 5] k (fun kq v3 v5 w' => ∃ (x3_1 : List (List (S52))) (x5_1 : Int), v5 = .int .i64 x5_1 ∧ Aside0 (steepleref25_Conds.l0 kq x3_1 t500 x5_1 a0_0 a0_1 a0_2 a0_3 a0_4 l0_5 = some r) ∧ Aside0 (kq ≤ k) ∧ Aside0 (Kd.N (Kd.slice 52 k52) 48 w' w.heap.size (fun k_ => (w.heap.size ≤ k_) ∧ some k_ ≠ (v501 : Value).ownBlock ∧ k_ ≠ gb499) v3 x3_1) ∧ Aside0 (Kd.R k47 47 w' w.heap.size (fun k_ => (w.heap.size ≤ k_)) v501 t500) ∧ Aside0 (w'.heap[gb499]? = some (.cells #[.int .i64 a0_0, .int .i64 a0_1, .int .i64 a0_2, .int .i64 a0_3, .int .i64 a0_4, (.slice A0_5 l0_5.length c0_5)] 28 (0, 0))) ∧ Aside0 (Below w.heap.size w w'))
 case atStart => exact ⟨(([] : List (List (S52)))), (0), eqA, H', ⟨Nat.le_refl _⟩, ⟨by first | exact Kd.S_nil _ _ _ _ _ | exact Kd.N_nil _ _ _ _ _ | exact Kd.V_nil _ _ _ _ _ | exact Kd.Q_nil _ _ _ _ _ | exact Kd.R_nil _ _ _ _ _⟩, ⟨by (with_reducible repeat (first | apply Kd.R_alloc | apply Kd.R_drewN | apply Kd.R_drew)); exact Kd.R_mono HO502.out (fun _ hk => hk.1)⟩, ⟨bkA BK499.out⟩, ⟨blA HB.out⟩⟩
 case round =>
  clear H'; (try clear c1); (try clear p2); (try clear hcz4); (try clear hfz4); obtain ⟨x3_1, x5_1, rfl, HA, HK1, HO_3, HO_4, BK499, HB⟩ := hrel
  cases gk with
  | zero => exact absurd HA.out (by simp [steepleref25_Conds.l0])
  | succ k1 =>
   have H := HA.out; clear HA
   simp only [steepleref25_Conds.l0] at H
   by_cases c6 : x5_1 < (l0_5.length : Int)
   ·rw [if_pos c6] at H
    have c6b0 : decide (x5_1 < (l0_5.length : Int)) = true := decide_eq_true c6; clear c6
    by_cases c7 : 0 ≤ x5_1
    ·rw [if_pos c7] at H
     have c7b0 : decide (0 ≤ x5_1) = true := decide_eq_true c7; clear c7; replace H := Option.bind_eq_some_iff.mp H; obtain ⟨t504, A80, H⟩ := H; replace H : (steepleref25_Conds.l1 k1 x3_1 t500 x5_1 t504 ([] : List Int) 0 a0_0 a0_1 a0_2 a0_3 a0_4 l0_5) = some r := H; have A8 := Aside0.mk A80; clear A80; have H' := Aside0.mk H; clear H
     have hcz9 := fun i => blk_cell BK499.out i
     have hfz9 := fun i => blk_frozen BK499.out i
     try go_wp2
     have n0_ := Aside0.mk (Kd.N_drew HO_3.out); have n1_ := Aside0.mk (Kd.R_drew HO_4.out); have n2_ := Aside0.mk (blk_drew BK499.out); have n3_ := Aside0.mk (below_drew1 HB.out); clear HO_3; clear HO_4; clear BK499; clear HB; have HO_3 := n0_; have HO_4 := n1_; have BK499 := n2_; have HB := n3_; clear n0_ n1_ n2_ n3_
     have p503 : 0 ≤ (x5_1 : Int) := of_decide_eq_true (by first | (with_reducible assumption) | assumption)
     have q503 : x5_1 < (l0_5.length : Int) := of_decide_eq_true (by first | (with_reducible assumption) | assumption)
     obtain ⟨ad503, e503, hx503_0, hx503_1, hx503_2, hx503_3, hx503_4⟩ := at_T106 HR0_5.out x5_1 p503 q503; have hw503_4 := hx503_4; have hw503_3 := hx503_3; have hw503_2 := hx503_2; have hw503_1 := hx503_1; have hw503_0 := hx503_0
     cases e503
     replace hx503_0 := (HB.out.cell (World.block_lt_of_cell? w _ hx503_0)).trans hx503_0; replace hx503_1 := (HB.out.cell (World.block_lt_of_cell? w _ hx503_1)).trans hx503_1; replace hx503_2 := (HB.out.cell (World.block_lt_of_cell? w _ hx503_2)).trans hx503_2; replace hx503_3 := (HB.out.cell (World.block_lt_of_cell? w _ hx503_3)).trans hx503_3; replace hx503_4 := (HB.out.cell (World.block_lt_of_cell? w _ hx503_4)).trans hx503_4; replace p503 := eq_true p503; replace q503 := eq_true q503
     refine start_ (n := 8) (S := fun w' => w'.cell? ⟨gb499, 0, none⟩ = some (.int .i64 a0_0) ∧ w'.cell? ⟨gb499, 1, none⟩ = some (.int .i64 a0_1) ∧ w'.cell? ⟨gb499, 2, none⟩ = some (.int .i64 a0_2) ∧ w'.cell? ⟨gb499, 3, none⟩ = some (.int .i64 a0_3) ∧ w'.cell? ⟨gb499, 4, none⟩ = some (.int .i64 a0_4) ∧ w'.cell? ⟨gb499, 5, none⟩ = some (.slice (some ad503) l0_5.length c0_5) ∧ w'.cell? (ad503.add ((x5_1).toNat * 5)) = some (.int .i64 ((rd_T106 l0_5 x5_1).f0)) ∧ w'.cell? ⟨(ad503.add ((x5_1).toNat * 5)).block, (ad503.add ((x5_1).toNat * 5)).off + 1, none⟩ = some (.int .i64 ((rd_T106 l0_5 x5_1).f1)) ∧ w'.cell? ⟨(ad503.add ((x5_1).toNat * 5)).block, (ad503.add ((x5_1).toNat * 5)).off + 2, none⟩ = some (.int .i64 ((rd_T106 l0_5 x5_1).f2)) ∧ w'.cell? ⟨(ad503.add ((x5_1).toNat * 5)).block, (ad503.add ((x5_1).toNat * 5)).off + 3, none⟩ = some (.int .i64 ((rd_T106 l0_5 x5_1).f3)) ∧ w'.cell? ⟨(ad503.add ((x5_1).toNat * 5)).block, (ad503.add ((x5_1).toNat * 5)).off + 4, none⟩ = some (.int .i64 ((rd_T106 l0_5 x5_1).f4))) (ds := []) #[false, false, false, false, false, false, false, false] (by kernel_rfl) rfl rfl ⟨(blk_cell BK499.out 0).trans rfl, (blk_cell BK499.out 1).trans rfl, (blk_cell BK499.out 2).trans rfl, (blk_cell BK499.out 3).trans rfl, (blk_cell BK499.out 4).trans rfl, (blk_cell BK499.out 5).trans rfl, (clA HB.out hw503_0), (clA HB.out hw503_1), (clA HB.out hw503_2), (clA HB.out hw503_3), (clA HB.out hw503_4)⟩ (fun hHeld => ?_); refine with_tabW steepleref25_Conds.tab6 steepleref25_Conds.bits6 (fun HT_ HW_ => ?_)
     generalize wr.drew = w10 at HO_3 HO_4 BK499 HB hx503_0 hx503_1 hx503_2 hx503_3 hx503_4 hHeld ⊢
     refine pureA 1 (some 21) HT_.out ?_
     refine pureA 3 (some 23) HT_.out ?_
     refine takeA 0 (some 20) rfl HT_.out HW_.out hHeld (Or.inl ⟨by rfl, by rintro w' ⟨s0, s1, s2, s3, s4, s5, s6, s7, s8, s9, s10⟩; go_simp; with_reducible rfl⟩) ?_
     refine takeA 2 (some 22) rfl HT_.out HW_.out hHeld (Or.inl ⟨by rfl, by rintro w' ⟨s0, s1, s2, s3, s4, s5, s6, s7, s8, s9, s10⟩; go_simp; with_reducible rfl⟩) ?_
     refine pureA 4 (some 24) HT_.out ?_
     refine takeA 5 (some 25) rfl HT_.out HW_.out hHeld (Or.inl ⟨by rfl, by rintro w' ⟨s0, s1, s2, s3, s4, s5, s6, s7, s8, s9, s10⟩; go_simp; with_reducible rfl⟩) ?_
     refine one_ (i := 6) (N := some 26) #[true, true, true, true, true, true, true, false] rfl rfl (one_of HT_.out (by kernel_rfl)) (by decide) (fun K hK => ?_)
     refine goes_ Try.func61 (by kernel_rfl) rfl #[.agg #[.int .i64 a0_0, .int .i64 a0_1, .int .i64 a0_2, .int .i64 a0_3, .int .i64 a0_4, .slice (some ad503) l0_5.length c0_5], .agg #[.int .i64 ((rd_T106 l0_5 x5_1).f0), .int .i64 ((rd_T106 l0_5 x5_1).f1), .int .i64 ((rd_T106 l0_5 x5_1).f2), .int .i64 ((rd_T106 l0_5 x5_1).f3), .int .i64 ((rd_T106 l0_5 x5_1).f4)]] (by rfl) rfl rfl gsA ?_
     with_reducible refine (steepleref25_System_Own.calls k1 a0_0 a0_1 a0_2 a0_3 a0_4 _ _ l0_5 ((rd_T106 l0_5 x5_1).f0) ((rd_T106 l0_5 x5_1).f1) ((rd_T106 l0_5 x5_1).f2) ((rd_T106 l0_5 x5_1).f3) ((rd_T106 l0_5 x5_1).f4) t504 _ ?side1 ?side2 A8.out).mono ?_
     (case side1 => repeat (first | exact (Kd.C_below HR0_5.out HB.out) | (with_reducible refine Kd.C_alloc ?_ _) | (with_reducible refine Kd.C_drewN ?_ _) | (with_reducible refine Kd.C_drew ?_)))
     (case side2 => exact HC0_5.out)
     rintro e w11 ⟨v505, rfl, ho0, hb⟩
     refine ⟨_, rfl, ?_⟩
     have n0_ := Aside0.mk (Kd.N_elder' (naA HO_3.out) (Kd.R_base ho0) hb)
     have n1_ := Aside0.mk (Kd.R_elder' (raA HO_4.out) (Kd.R_base ho0) hb)
     have n2_ := Aside0.mk (Kd.R_lower (Kd.R_new' (Kd.R_newM (M := fun k_ => (w.heap.size ≤ k_)) ho0 (below_size (blA HB.out)) (fun k_ h_ => h_)) (Kd.R_lt (raA HO_4.out))) (below_size (blA HB.out)))
     have n3_ := Aside0.mk (blk_below (bkA BK499.out) hb); have n4_ := Aside0.mk (below_step (blA HB.out) hb); clear HO_3; clear HO_4; clear BK499; clear HB; have HO_3 := n0_; have HO_4 := n1_; have HO506 := n2_; have BK499 := n3_; have HB := n4_; clear n0_ n1_ n2_ n3_ n4_
     (try clear hb)
     (try clear ho0)
     refine hK.out _ _ ⟨(blk_cell BK499.out 0).trans rfl, (blk_cell BK499.out 1).trans rfl, (blk_cell BK499.out 2).trans rfl, (blk_cell BK499.out 3).trans rfl, (blk_cell BK499.out 4).trans rfl, (blk_cell BK499.out 5).trans rfl, (clA HB.out hw503_0), (clA HB.out hw503_1), (clA HB.out hw503_2), (clA HB.out hw503_3), (clA HB.out hw503_4)⟩ (fun hHeld => ?_)
     clear hK K
     refine normA ?_
     refine pureA 7 (some 6) HT_.out ?_
     refine done_ (done_of HT_.out (by kernel_rfl)) ?_
     try go_wp2
     go_loopg [7, 8] k1 (fun kq v7 v8 w' => ∃ (x7_2 : List Int) (x8_2 : Int), v8 = .int .i64 x8_2 ∧ Aside0 (steepleref25_Conds.l1 kq x3_1 t500 x5_1 t504 x7_2 x8_2 a0_0 a0_1 a0_2 a0_3 a0_4 l0_5 = some r) ∧ Aside0 (kq ≤ k1) ∧ Aside0 (Kd.N (Kd.slice 52 k52) 48 w' w.heap.size (fun k_ => (w.heap.size ≤ k_) ∧ some k_ ≠ (v501 : Value).ownBlock ∧ some k_ ≠ (v505 : Value).ownBlock ∧ some k_ ≠ (v7 : Value).ownBlock ∧ k_ ≠ gb499) u3 x3_1) ∧ Aside0 (Kd.R k47 47 w' w.heap.size (fun k_ => (w.heap.size ≤ k_) ∧ some k_ ≠ (v505 : Value).ownBlock) v501 t500) ∧ Aside0 (Kd.R k47 47 w' w.heap.size (fun k_ => (w.heap.size ≤ k_) ∧ some k_ ≠ (v501 : Value).ownBlock) v505 t504) ∧ Aside0 (Kd.R (Kd.int .i64) 3 w' w.heap.size (fun k_ => (w.heap.size ≤ k_)) v7 x7_2) ∧ Aside0 (w'.heap[gb499]? = some (.cells #[.int .i64 a0_0, .int .i64 a0_1, .int .i64 a0_2, .int .i64 a0_3, .int .i64 a0_4, (.slice (some ad503) l0_5.length c0_5)] 28 (0, 0))) ∧ Aside0 (Below w.heap.size w w'))
     case atStart => exact ⟨(([] : List Int)), (0), eqA, H', ⟨Nat.le_refl _⟩, ⟨by (with_reducible repeat (first | apply Kd.N_alloc | apply Kd.N_drewN | apply Kd.N_drew)); exact Kd.N_mono HO_3.out (fun _ hk => ⟨hk.1.1, ⟨hk.1.2.1, ⟨hk.2, ⟨(by simp [Value.ownBlock]), hk.1.2.2⟩⟩⟩⟩)⟩, ⟨raA HO_4.out⟩, ⟨by (with_reducible repeat (first | apply Kd.R_alloc | apply Kd.R_drewN | apply Kd.R_drew)); exact Kd.R_mono HO506.out (fun _ hk => ⟨hk.1.1, hk.2⟩)⟩, ⟨by first | exact Kd.R_nil _ _ _ _ _ | exact Kd.N_nil _ _ _ _ _ | exact Kd.V_nil _ _ _ _ _ | exact Kd.Q_nil _ _ _ _ _ | exact Kd.S_nil _ _ _ _ _⟩, ⟨bkA BK499.out⟩, ⟨blA HB.out⟩⟩
     case round =>
      clear H'; (try clear c1); (try clear p2); (try clear p5); (try clear q5); (try clear hx5); (try clear c6); (try clear c6b0); (try clear c7); (try clear c7b0); (try clear hcz4); (try clear hcz9); (try clear hfz4); (try clear hfz9); (try clear hx503_0); (try clear hx503_1); (try clear hx503_2); (try clear hx503_3); (try clear hx503_4); (try clear p2); (try clear p503); (try clear q503); obtain ⟨x7_2, x8_2, rfl, HA, HK2, HO_3, HO_4, HO_6, HO_7, BK499, HB⟩ := hrel
      cases gk with
      | zero => exact absurd HA.out (by simp [steepleref25_Conds.l1])
      | succ k2 =>
       have H := HA.out; clear HA
       simp only [steepleref25_Conds.l1] at H
       by_cases c12 : x8_2 < (t504.length : Int)
       ·rw [if_pos c12] at H
        have c12b0 : decide (x8_2 < (t504.length : Int)) = true := decide_eq_true c12; clear c12
        by_cases c13 : 0 ≤ x8_2
        ·rw [if_pos c13] at H
         have c13b0 : decide (0 ≤ x8_2) = true := decide_eq_true c13; clear c13; replace H := Option.bind_eq_some_iff.mp H; obtain ⟨t508, A140, H⟩ := H
         (try dsimp only at H)
         have A14 := Aside0.mk A140; clear A140
         by_cases c15 : x7_2.length < 17592186044416
         ·rw [if_pos c15] at H
          have LMc15 := Aside0.mk c15; clear c15
          obtain ⟨y509, hy509⟩ : ∃ y_ : List Int, y_ = (x7_2 ++ [t508]) := ⟨_, rfl⟩
          replace H : (steepleref25_Conds.l1 k2 x3_1 t500 x5_1 t504 y509 (wrap64 (x8_2 + 1)) a0_0 a0_1 a0_2 a0_3 a0_4 l0_5) = some r := by first | (rw [hy509]; with_reducible exact H) | (have H2_ := (Option.bind_some _ _).symm.trans H; rw [hy509]; with_reducible exact H2_) | (have H2_ := (Option.bind_some _ _).symm.trans H; with_reducible exact H2_) | with_reducible exact H | (rw [hy509]; exact H) | exact H
          have Ny509 := Aside0.mk hy509; clear hy509; have H' := Aside0.mk H; clear H; obtain ⟨Ao16, co16, eo16⟩ := Kd.R_slice HO_6.out; subst eo16
          have p507 : 0 ≤ (x8_2 : Int) := of_decide_eq_true (by first | (with_reducible assumption) | assumption)
          have q507 : x8_2 < (t504.length : Int) := of_decide_eq_true (by first | (with_reducible assumption) | assumption)
          obtain ⟨ad507, e507, hx507_0, hx507_1, hx507_2, hx507_3, hx507_4⟩ := at_T47 (Kd.R_reads' HO_6.out).2.2 x8_2 p507 q507
          cases e507
          replace p507 := eq_true p507; replace q507 := eq_true q507; obtain ⟨Ao17, co17, eo17⟩ := Kd.R_slice HO_4.out; subst eo17
          go_wp2_with (first | ((with_reducible refine gate_callee (f := 62) rfl ?_); refine goesL_ (some 39) rfl rfl Try.func62 (by kernel_rfl) rfl #[.slice Ao17 t500.length co17, .agg #[.int .i64 ((rd_T47 t504 x8_2).f0), .int .i64 ((rd_T47 t504 x8_2).f1), .int .i64 ((rd_T47 t504 x8_2).f2), .int .u64 ((rd_T47 t504 x8_2).f3.f0), .int .u64 ((rd_T47 t504 x8_2).f3.f1)]] rfl gsA ?_; (with_reducible refine (steepleref25_find.calls k2 _ _ t500 ((rd_T47 t504 x8_2).f0) ((rd_T47 t504 x8_2).f1) ((rd_T47 t504 x8_2).f2) ((rd_T47 t504 x8_2).f3.f0) ((rd_T47 t504 x8_2).f3.f1) t508 _ ?side1 ?side2 A14.out).mono ?_); (case side1 => repeat (first | exact (Kd.R_reads' HO_4.out).2.2 | (with_reducible refine Kd.C_alloc ?_ _) | (with_reducible refine Kd.C_drewN ?_ _) | (with_reducible refine Kd.C_drew ?_))); (case side2 => exact (Kd.R_reads' HO_4.out).2.1); rintro e w18 ⟨rfl, hb⟩; refine ⟨_, rfl, ?_⟩; have n0_ := Aside0.mk (Kd.N_below (naA HO_3.out) hb); have n1_ := Aside0.mk (Kd.R_below (raA HO_4.out) hb); have n2_ := Aside0.mk (Kd.R_below (raA HO_6.out) hb); have n3_ := Aside0.mk (Kd.R_below (raA HO_7.out) hb); have n4_ := Aside0.mk (blk_below (bkA BK499.out) hb); have n5_ := Aside0.mk (below_step (blA HB.out) hb); clear HO_3; clear HO_4; clear HO_6; clear HO_7; clear BK499; clear HB; have HO_3 := n0_; have HO_4 := n1_; have HO_6 := n2_; have HO_7 := n3_; have BK499 := n4_; have HB := n5_; clear n0_ n1_ n2_ n3_ n4_ n5_; (try clear hb)) | ((with_reducible refine gate_builtin (b := .append) (xs := #[.tmp 33, .tmp 40]) rfl ?_); at_builtin; refine Kd.R_append (Kd.int .i64) (w0 := w) w.heap.size rfl (.tmp 33) (.tmp 40) 115 3 (.int .i64 0) 8 rfl Try.underlying115 info3 rfl (by decide) (by omega) u7 x7_2 t508 [.int .i64 t508] (fun k_ => (w.heap.size ≤ k_)) (fun _ => False) rfl rfl ?aP (fun _ hk => hk.elim) ?aF ?aO ?aB ?aS ?aL ?_; (case aP => exact rfl); (case aB => exact (blA HB.out)); (case aF => exact (fun k_ hk => (Nat.le_trans (below_size (blA HB.out)) hk))); (case aO => exact (raA HO_7.out)); (case aS => exact (below_size (blA HB.out))); (case aL => have := LMc15.out; omega); intro v510 w19 ho hb hg hat; rw [← Ny509.out] at ho; have n0_ := Aside0.mk (Kd.N_afterv (ok := (fun k_ => (w.heap.size ≤ k_) ∧ some k_ ≠ (.slice Ao17 t500.length co17 : Value).ownBlock ∧ some k_ ≠ (.slice (some ad507) t504.length co16 : Value).ownBlock ∧ k_ ≠ gb499)) (by (with_reducible repeat (first | apply Kd.N_alloc | apply Kd.N_drewN | apply Kd.N_drew)); exact Kd.N_mono HO_3.out (fun _ hk => ⟨⟨hk.1, ⟨hk.2.1, ⟨hk.2.2.1, hk.2.2.2.2⟩⟩⟩, hk.2.2.2.1⟩)) hg hat); have n1_ := Aside0.mk (Kd.R_over' (raA HO_4.out) (Kd.R_typed (raA HO_7.out)) (by decide) hg); have n2_ := Aside0.mk (Kd.R_over' (raA HO_6.out) (Kd.R_typed (raA HO_7.out)) (by decide) hg); have n3_ := Aside0.mk (blk_grown (bkA BK499.out) hg (Kd.R_ne HO_7.out BK499.out (by decide))); have n4_ := Aside0.mk (hb); have n5_ := Aside0.mk (ho); clear HO_3; clear HO_4; clear HO_6; clear BK499; clear HB; clear HO_7; have HO_3 := n0_; have HO_4 := n1_; have HO_6 := n2_; have BK499 := n3_; have HB := n4_; have HO511 := n5_; clear n0_ n1_ n2_ n3_ n4_ n5_; clear ho hb hg hat))
          go_roundg k2
          case measure => have := HK1.out; have := HK2.out; omega
          case rel => exact ⟨(y509), (wrap64 (x8_2 + 1)), eqA, H', ⟨by have := HK1.out; have := HK2.out; omega⟩, ⟨by (with_reducible repeat (first | apply Kd.N_alloc | apply Kd.N_drewN | apply Kd.N_drew)); exact Kd.N_mono HO_3.out (fun _ hk => ⟨hk.1.1, ⟨hk.1.2.1, ⟨hk.1.2.2.1, ⟨hk.2, hk.1.2.2.2⟩⟩⟩⟩)⟩, ⟨raA HO_4.out⟩, ⟨raA HO_6.out⟩, ⟨raA HO511.out⟩, ⟨bkA BK499.out⟩, ⟨blA HB.out⟩⟩
         ·rw [if_neg c15] at H
          exact absurd H (by simp)
        ·rw [if_neg c13] at H
         exact absurd H (by simp)
       ·rw [if_neg c12] at H
        have c12b0 : decide (x8_2 < (t504.length : Int)) = false := decide_eq_false c12; clear c12
        by_cases c20 : 0 ≤ x5_1
        ·rw [if_pos c20] at H
         have c20b0 : decide (0 ≤ x5_1) = true := decide_eq_true c20; clear c20
         by_cases c21 : x5_1 < (l0_5.length : Int)
         ·rw [if_pos c21] at H
          have c21b0 : decide (x5_1 < (l0_5.length : Int)) = true := decide_eq_true c21; clear c21; replace H := Option.bind_eq_some_iff.mp H; obtain ⟨t513, A220, H⟩ := H; replace H : (steepleref25_Conds.l2 k2 x3_1 t500 x5_1 t513 0 a0_0 a0_1 a0_2 a0_3 a0_4 l0_5) = some r := H; have A22 := Aside0.mk A220; clear A220; have H' := Aside0.mk H; clear H; obtain ⟨Ao23, co23, eo23⟩ := Kd.R_slice HO_6.out; subst eo23
          try go_wp2
          have n0_ := Aside0.mk (Kd.N_drew HO_3.out); have n1_ := Aside0.mk (Kd.R_drew HO_4.out); have n2_ := Aside0.mk (Kd.R_drew HO_6.out); have n3_ := Aside0.mk (Kd.R_drew HO_7.out); have n4_ := Aside0.mk (blk_drew BK499.out); have n5_ := Aside0.mk (below_drew1 HB.out); clear HO_3; clear HO_4; clear HO_6; clear HO_7; clear BK499; clear HB; have HO_3 := n0_; have HO_4 := n1_; have HO_6 := n2_; have HO_7 := n3_; have BK499 := n4_; have HB := n5_; clear n0_ n1_ n2_ n3_ n4_ n5_
          have p512 : 0 ≤ (x5_1 : Int) := of_decide_eq_true (by first | (with_reducible assumption) | assumption)
          have q512 : x5_1 < (l0_5.length : Int) := of_decide_eq_true (by first | (with_reducible assumption) | assumption)
          obtain ⟨ad512, e512, hx512_0, hx512_1, hx512_2, hx512_3, hx512_4⟩ := at_T106 HR0_5.out x5_1 p512 q512; have hw512_4 := hx512_4; have hw512_3 := hx512_3; have hw512_2 := hx512_2; have hw512_1 := hx512_1; have hw512_0 := hx512_0
          obtain rfl : ad503 = ad512 := (by injection e512)
          replace hx512_0 := (HB.out.cell (World.block_lt_of_cell? w _ hx512_0)).trans hx512_0; replace hx512_1 := (HB.out.cell (World.block_lt_of_cell? w _ hx512_1)).trans hx512_1; replace hx512_2 := (HB.out.cell (World.block_lt_of_cell? w _ hx512_2)).trans hx512_2; replace hx512_3 := (HB.out.cell (World.block_lt_of_cell? w _ hx512_3)).trans hx512_3; replace hx512_4 := (HB.out.cell (World.block_lt_of_cell? w _ hx512_4)).trans hx512_4; replace p512 := eq_true p512; replace q512 := eq_true q512; obtain ⟨Ao25, co25, eo25⟩ := Kd.R_slice HO_7.out
          (first | subst eo25 | (injection eo25 with f1_ f2_ f3_; have f4_ := f1_.symm; have f5_ := f3_.symm; clear f1_ f2_ f3_; subst f4_; subst f5_))
          refine start_ (n := 9) (S := fun w' => w'.cell? ⟨gb499, 0, none⟩ = some (.int .i64 a0_0) ∧ w'.cell? ⟨gb499, 1, none⟩ = some (.int .i64 a0_1) ∧ w'.cell? ⟨gb499, 2, none⟩ = some (.int .i64 a0_2) ∧ w'.cell? ⟨gb499, 3, none⟩ = some (.int .i64 a0_3) ∧ w'.cell? ⟨gb499, 4, none⟩ = some (.int .i64 a0_4) ∧ w'.cell? ⟨gb499, 5, none⟩ = some (.slice (some ad503) l0_5.length c0_5) ∧ w'.cell? (ad503.add ((x5_1).toNat * 5)) = some (.int .i64 ((rd_T106 l0_5 x5_1).f0)) ∧ w'.cell? ⟨(ad503.add ((x5_1).toNat * 5)).block, (ad503.add ((x5_1).toNat * 5)).off + 1, none⟩ = some (.int .i64 ((rd_T106 l0_5 x5_1).f1)) ∧ w'.cell? ⟨(ad503.add ((x5_1).toNat * 5)).block, (ad503.add ((x5_1).toNat * 5)).off + 2, none⟩ = some (.int .i64 ((rd_T106 l0_5 x5_1).f2)) ∧ w'.cell? ⟨(ad503.add ((x5_1).toNat * 5)).block, (ad503.add ((x5_1).toNat * 5)).off + 3, none⟩ = some (.int .i64 ((rd_T106 l0_5 x5_1).f3)) ∧ w'.cell? ⟨(ad503.add ((x5_1).toNat * 5)).block, (ad503.add ((x5_1).toNat * 5)).off + 4, none⟩ = some (.int .i64 ((rd_T106 l0_5 x5_1).f4))) (ds := []) #[false, false, false, false, false, false, false, false, false] (by kernel_rfl) rfl rfl ⟨(blk_cell BK499.out 0).trans rfl, (blk_cell BK499.out 1).trans rfl, (blk_cell BK499.out 2).trans rfl, (blk_cell BK499.out 3).trans rfl, (blk_cell BK499.out 4).trans rfl, (blk_cell BK499.out 5).trans rfl, (clA HB.out hw512_0), (clA HB.out hw512_1), (clA HB.out hw512_2), (clA HB.out hw512_3), (clA HB.out hw512_4)⟩ (fun hHeld => ?_); refine with_tabW steepleref25_Conds.tab12 steepleref25_Conds.bits12 (fun HT_ HW_ => ?_)
          generalize wr.drew = w24 at HO_3 HO_4 HO_6 HO_7 BK499 HB hx512_0 hx512_1 hx512_2 hx512_3 hx512_4 hHeld ⊢
          refine pureA 1 (some 43) HT_.out ?_
          refine pureA 3 (some 45) HT_.out ?_
          refine pureA 6 (some 48) HT_.out ?_
          refine takeA 0 (some 42) rfl HT_.out HW_.out hHeld (Or.inl ⟨by rfl, by rintro w' ⟨s0, s1, s2, s3, s4, s5, s6, s7, s8, s9, s10⟩; go_simp; with_reducible rfl⟩) ?_
          refine takeA 2 (some 44) rfl HT_.out HW_.out hHeld (Or.inl ⟨by rfl, by rintro w' ⟨s0, s1, s2, s3, s4, s5, s6, s7, s8, s9, s10⟩; go_simp; with_reducible rfl⟩) ?_
          refine pureA 4 (some 46) HT_.out ?_
          refine takeA 5 (some 47) rfl HT_.out HW_.out hHeld (Or.inl ⟨by rfl, by rintro w' ⟨s0, s1, s2, s3, s4, s5, s6, s7, s8, s9, s10⟩; go_simp; with_reducible rfl⟩) ?_
          refine one_ (i := 7) (N := some 49) #[true, true, true, true, true, true, true, true, false] rfl rfl (one_of HT_.out (by kernel_rfl)) (by decide) (fun K hK => ?_)
          refine goes_ Try.func63 (by kernel_rfl) rfl #[.agg #[.int .i64 a0_0, .int .i64 a0_1, .int .i64 a0_2, .int .i64 a0_3, .int .i64 a0_4, .slice (some ad503) l0_5.length c0_5], .agg #[.int .i64 ((rd_T106 l0_5 x5_1).f0), .int .i64 ((rd_T106 l0_5 x5_1).f1), .int .i64 ((rd_T106 l0_5 x5_1).f2), .int .i64 ((rd_T106 l0_5 x5_1).f3), .int .i64 ((rd_T106 l0_5 x5_1).f4)], .slice Ao25 x7_2.length co25] (by rfl) rfl rfl gsA ?_
          with_reducible refine (steepleref25_System_Laid.calls k2 a0_0 a0_1 a0_2 a0_3 a0_4 _ _ l0_5 ((rd_T106 l0_5 x5_1).f0) ((rd_T106 l0_5 x5_1).f1) ((rd_T106 l0_5 x5_1).f2) ((rd_T106 l0_5 x5_1).f3) ((rd_T106 l0_5 x5_1).f4) _ _ x7_2 t513 _ ?side1 ?side2 ?side3 ?side4 A22.out).mono ?_
          (case side1 => repeat (first | exact (Kd.C_below HR0_5.out HB.out) | (with_reducible refine Kd.C_alloc ?_ _) | (with_reducible refine Kd.C_drewN ?_ _) | (with_reducible refine Kd.C_drew ?_)))
          (case side2 => exact HC0_5.out)
          (case side3 => repeat (first | exact (Kd.R_reads' HO_7.out).2.2 | (with_reducible refine Kd.C_alloc ?_ _) | (with_reducible refine Kd.C_drewN ?_ _) | (with_reducible refine Kd.C_drew ?_)))
          (case side4 => exact (Kd.R_reads' HO_7.out).2.1)
          rintro e w26 ⟨v514, rfl, ho0, hb⟩
          refine ⟨_, rfl, ?_⟩
          have n0_ := Aside0.mk (Kd.N_elder' (naA HO_3.out) (Kd.N_base ho0) hb)
          have n1_ := Aside0.mk (Kd.R_below (raA HO_4.out) hb)
          have n2_ := Aside0.mk (Kd.R_below (raA HO_6.out) hb)
          have n3_ := Aside0.mk (Kd.R_below (raA HO_7.out) hb)
          have n4_ := Aside0.mk (Kd.N_lower (Kd.N_mono (ok' := fun k_ => (w.heap.size ≤ k_) ∧ some k_ ≠ (u3 : Value).ownBlock ∧ some k_ ≠ (v501 : Value).ownBlock ∧ some k_ ≠ (.slice Ao23 t504.length co23 : Value).ownBlock ∧ some k_ ≠ (.slice Ao25 x7_2.length co25 : Value).ownBlock ∧ k_ ≠ gb499) ho0 (fun k_ hk_ => ⟨(Nat.le_trans (below_size (blA HB.out)) hk_), (Kd.fresh' (Kd.N_lt (naA HO_3.out)) k_ hk_), (Kd.fresh' (Kd.R_lt (raA HO_4.out)) k_ hk_), (Kd.fresh' (Kd.R_lt (raA HO_6.out)) k_ hk_), (Kd.fresh' (Kd.R_lt (raA HO_7.out)) k_ hk_), (Kd.freshB (bkA BK499.out) k_ hk_)⟩)) (below_size (blA HB.out)))
          have n5_ := Aside0.mk (blk_below (bkA BK499.out) hb); have n6_ := Aside0.mk (below_step (blA HB.out) hb); clear HO_3; clear HO_4; clear HO_6; clear HO_7; clear BK499; clear HB; have HO_3 := n0_; have HO_4 := n1_; have HO_6 := n2_; have HO_7 := n3_; have HO515 := n4_; have BK499 := n5_; have HB := n6_; clear n0_ n1_ n2_ n3_ n4_ n5_ n6_
          (try clear hb)
          (try clear ho0)
          refine hK.out _ _ ⟨(blk_cell BK499.out 0).trans rfl, (blk_cell BK499.out 1).trans rfl, (blk_cell BK499.out 2).trans rfl, (blk_cell BK499.out 3).trans rfl, (blk_cell BK499.out 4).trans rfl, (blk_cell BK499.out 5).trans rfl, (clA HB.out hw512_0), (clA HB.out hw512_1), (clA HB.out hw512_2), (clA HB.out hw512_3), (clA HB.out hw512_4)⟩ (fun hHeld => ?_)
          clear hK K
          refine normA ?_
          refine pureA 8 (some 9) HT_.out ?_
          refine done_ (done_of HT_.out (by kernel_rfl)) ?_
          try go_wp2
          go_loopg [3, 10] k2 (fun kq v3 v10 w' => ∃ (x3_3 : List (List (S52))) (x10_3 : Int), v10 = .int .i64 x10_3 ∧ Aside0 (steepleref25_Conds.l2 kq x3_3 t500 x5_1 t513 x10_3 a0_0 a0_1 a0_2 a0_3 a0_4 l0_5 = some r) ∧ Aside0 (kq ≤ k2) ∧ Aside0 (Kd.N (Kd.slice 52 k52) 48 w' w.heap.size (fun k_ => (w.heap.size ≤ k_) ∧ some k_ ≠ (v501 : Value).ownBlock ∧ some k_ ≠ (v514 : Value).ownBlock ∧ k_ ≠ gb499) v3 x3_3) ∧ Aside0 (Kd.R k47 47 w' w.heap.size (fun k_ => (w.heap.size ≤ k_)) v501 t500) ∧ Aside0 (Kd.N (Kd.slice 52 k52) 48 w' w.heap.size (fun k_ => (w.heap.size ≤ k_) ∧ some k_ ≠ (v3 : Value).ownBlock ∧ some k_ ≠ (v501 : Value).ownBlock ∧ k_ ≠ gb499) v514 t513) ∧ Aside0 (w'.heap[gb499]? = some (.cells #[.int .i64 a0_0, .int .i64 a0_1, .int .i64 a0_2, .int .i64 a0_3, .int .i64 a0_4, (.slice (some ad503) l0_5.length c0_5)] 28 (0, 0))) ∧ Aside0 (Below w.heap.size w w'))
          case atStart => exact ⟨(x3_1), (0), eqA, H', ⟨Nat.le_refl _⟩, ⟨by (with_reducible repeat (first | apply Kd.N_alloc | apply Kd.N_drewN | apply Kd.N_drew)); exact Kd.N_mono HO_3.out (fun _ hk => ⟨hk.1.1, ⟨hk.1.2.1, ⟨hk.2, hk.1.2.2.2.2⟩⟩⟩)⟩, ⟨by (with_reducible repeat (first | apply Kd.R_alloc | apply Kd.R_drewN | apply Kd.R_drew)); exact Kd.R_mono HO_4.out (fun _ hk => hk.1)⟩, ⟨by (with_reducible repeat (first | apply Kd.N_alloc | apply Kd.N_drewN | apply Kd.N_drew)); exact Kd.N_mono HO515.out (fun _ hk => ⟨hk.1, ⟨hk.2.1, ⟨hk.2.2.1, hk.2.2.2.2.2⟩⟩⟩)⟩, ⟨bkA BK499.out⟩, ⟨blA HB.out⟩⟩
          case round =>
           clear H'; (try clear c1); (try clear c2); (try clear p2); (try clear p5); (try clear q5); (try clear hx5); (try clear c6); (try clear c6b0); (try clear p6); (try clear c7); (try clear c7b0); (try clear c12); (try clear c12b0); (try clear c13); (try clear c13b0); (try clear c15); (try clear c17); (try clear c18); (try clear c20); (try clear c20b0); (try clear c21); (try clear c21b0); (try clear hcz4); (try clear hcz9); (try clear hfz4); (try clear hfz9); (try clear hx503_0); (try clear hx503_1); (try clear hx503_2); (try clear hx503_3); (try clear hx503_4); (try clear hx507_0); (try clear hx507_1); (try clear hx507_2); (try clear hx507_3); (try clear hx507_4); (try clear hx512_0); (try clear hx512_1); (try clear hx512_2); (try clear hx512_3); (try clear hx512_4); (try clear p2); (try clear p5); (try clear p503); (try clear p507); (try clear p512); (try clear q5); (try clear q503); (try clear q507); (try clear q512); obtain ⟨x3_3, x10_3, rfl, HA, HK3, HO_3, HO_4, HO_9, BK499, HB⟩ := hrel
           cases gk with
           | zero => exact absurd HA.out (by simp [steepleref25_Conds.l2])
           | succ k3 =>
            have H := HA.out; clear HA
            simp only [steepleref25_Conds.l2] at H
            by_cases c27 : x10_3 < (t513.length : Int)
            ·rw [if_pos c27] at H
             have c27b0 : decide (x10_3 < (t513.length : Int)) = true := decide_eq_true c27; clear c27
             by_cases c28 : 0 ≤ x10_3
             ·rw [if_pos c28] at H
              have c28b0 : decide (0 ≤ x10_3) = true := decide_eq_true c28; clear c28
              by_cases c29 : x3_3.length < 5864062014805
              ·rw [if_pos c29] at H
               have LMc29 := Aside0.mk c29; clear c29
               obtain ⟨y517, hy517⟩ : ∃ y_ : List (List (S52)), y_ = (x3_3 ++ [rd_L16 t513 x10_3]) := ⟨_, rfl⟩
               replace H : (steepleref25_Conds.l2 k3 y517 t500 x5_1 t513 (wrap64 (x10_3 + 1)) a0_0 a0_1 a0_2 a0_3 a0_4 l0_5) = some r := by first | (rw [hy517]; with_reducible exact H) | (have H2_ := (Option.bind_some _ _).symm.trans H; rw [hy517]; with_reducible exact H2_) | (have H2_ := (Option.bind_some _ _).symm.trans H; with_reducible exact H2_) | with_reducible exact H | (rw [hy517]; exact H) | exact H
               have Ny517 := Aside0.mk hy517; clear hy517; have H' := Aside0.mk H; clear H; obtain ⟨Ao30, co30, eo30⟩ := Kd.N_slice HO_9.out; subst eo30
               have p516 : 0 ≤ (x10_3 : Int) := of_decide_eq_true (by first | (with_reducible assumption) | assumption)
               have q516 : x10_3 < (t513.length : Int) := of_decide_eq_true (by first | (with_reducible assumption) | assumption)
               obtain ⟨ad516, A516_0, c516_0, e516, hx516_0, hl516_0, hi516_0⟩ := at_L16 (Kd.N_reads' HO_9.out).2.2 x10_3 p516 q516
               cases e516
               obtain ⟨ce516, hce516, hMe516, hcc516⟩ := Kd.N_get HO_9.out [] x10_3 p516 (by first | exact q516 | exact of_decide_eq_true (by first | (with_reducible assumption) | assumption) | (have e_ := (Kd.N_reads' HO_9.out).1; omega))
               obtain ⟨ua516_0, uc516_0, rfl, ul516_0, ge516_0⟩ := Kd.FK_slice_open hMe516; have hv516_0 := hcc516 0 _ rfl
               rw [Nat.add_zero, show ((Kd.slice 52 k52)).sz = 1 from rfl, Nat.mul_one] at hv516_0
               replace hv516_0 := Option.some.inj (hv516_0.symm.trans hx516_0)
               injection hv516_0 with hva_ hvn_ hvc_
               rw [hva_] at ge516_0
               rw [hvc_] at ul516_0
               have HL516_0 := Aside0.mk (show Kd.V k52 52 _ w.heap.size _ _ (rd_L16 t513 x10_3) from Kd.V_mk ul516_0 ge516_0)
               clear hva_ hvn_ hvc_ ge516_0 ul516_0; clear hcc516 hce516; have HR516_0 := Aside0.mk hi516_0; have HC516_0 := Aside0.mk hl516_0; clear hi516_0 hl516_0; replace p516 := eq_true p516; replace q516 := eq_true q516
               go_wp2_with (first | ((with_reducible refine gate_builtin (b := .append) (xs := #[.tmp 56, .tmp 61]) rfl ?_); at_builtin; refine Kd.N_append (Kd.slice 52 k52) (w0 := w) w.heap.size rfl (.tmp 56) (.tmp 61) 39 48 (.slice none 0 0) 24 rfl Try.underlying39 info48 rfl (by decide) (by omega) u3 x3_3 (rd_L16 t513 x10_3) [.slice A516_0 (rd_L16 t513 x10_3).length c516_0] (fun k_ => (w.heap.size ≤ k_) ∧ some k_ ≠ (v501 : Value).ownBlock ∧ some k_ ≠ (.slice (some ad516) t513.length co30 : Value).ownBlock ∧ k_ ≠ gb499) (fun k_ => ((fun k_ => (w.heap.size ≤ k_) ∧ some k_ ≠ (v501 : Value).ownBlock ∧ some k_ ≠ (.slice (some ad516) t513.length co30 : Value).ownBlock ∧ k_ ≠ gb499)) k_ ∧ some k_ ≠ (u3 : Value).ownBlock) rfl rfl ?aP (fun _ hk => hk) ?aF ?aO ?aB ?aS ?aL ?_; (case aP => exact (Kd.FK_slice_mk (Kd.V_reads' (Kd.V_mono (ok' := (fun k_ => ((fun k_ => (w.heap.size ≤ k_) ∧ some k_ ≠ (v501 : Value).ownBlock ∧ some k_ ≠ (.slice (some ad516) t513.length co30 : Value).ownBlock ∧ k_ ≠ gb499)) k_ ∧ some k_ ≠ (u3 : Value).ownBlock)) (HL516_0.out) (fun k_ hk => ⟨⟨hk.1.1, ⟨hk.1.2.2.1, ⟨hk.2, hk.1.2.2.2⟩⟩⟩, hk.1.2.1⟩))).2.1 (Kd.V_F (Kd.V_mono (ok' := (fun k_ => ((fun k_ => (w.heap.size ≤ k_) ∧ some k_ ≠ (v501 : Value).ownBlock ∧ some k_ ≠ (.slice (some ad516) t513.length co30 : Value).ownBlock ∧ k_ ≠ gb499)) k_ ∧ some k_ ≠ (u3 : Value).ownBlock)) (HL516_0.out) (fun k_ hk => ⟨⟨hk.1.1, ⟨hk.1.2.2.1, ⟨hk.2, hk.1.2.2.2⟩⟩⟩, hk.1.2.1⟩))))); (case aB => exact (blA HB.out)); (case aF => exact (fun k_ hk => ⟨(Nat.le_trans (below_size (blA HB.out)) hk), Kd.fresh' (Kd.R_lt (raA HO_4.out)) k_ hk, Kd.fresh' (Kd.N_lt (naA HO_9.out)) k_ hk, Kd.freshB (bkA BK499.out) k_ hk⟩)); (case aO => exact (naA HO_3.out)); (case aS => exact (below_size (blA HB.out))); (case aL => have := LMc29.out; omega); intro v518 w31 ho hb hg hat; rw [← Ny517.out] at ho; have n0_ := Aside0.mk (Kd.R_over' (raA HO_4.out) (Kd.N_typed (naA HO_3.out)) (by decide) hg); have n1_ := Aside0.mk (Kd.N_afterv (ok := (fun k_ => (w.heap.size ≤ k_) ∧ some k_ ≠ (v501 : Value).ownBlock ∧ k_ ≠ gb499)) (by (with_reducible repeat (first | apply Kd.N_alloc | apply Kd.N_drewN | apply Kd.N_drew)); exact Kd.N_mono HO_9.out (fun _ hk => ⟨⟨hk.1, ⟨hk.2.2.1, hk.2.2.2⟩⟩, hk.2.1⟩)) hg hat); have n2_ := Aside0.mk (blk_grown (bkA BK499.out) hg (Kd.N_ne HO_3.out BK499.out (by decide))); have n3_ := Aside0.mk (Kd.V_afterv (ok := (fun k_ => (w.heap.size ≤ k_) ∧ some k_ ≠ (v501 : Value).ownBlock ∧ some k_ ≠ (.slice (some ad516) t513.length co30 : Value).ownBlock ∧ k_ ≠ gb499)) (by (with_reducible repeat (first | apply Kd.V_alloc | apply Kd.V_drewN | apply Kd.V_drew)); exact Kd.V_mono HL516_0.out (fun _ hk => ⟨⟨hk.1.1, ⟨hk.1.2.2.1, ⟨hk.2, hk.1.2.2.2⟩⟩⟩, hk.1.2.1⟩)) hg hat); have n4_ := Aside0.mk (hb); have n5_ := Aside0.mk (ho); clear HO_4; clear HO_9; clear BK499; clear HL516_0; clear HB; clear HO_3; have HO_4 := n0_; have HO_9 := n1_; have BK499 := n2_; have HL516_0 := n3_; have HB := n4_; have HO519 := n5_; clear n0_ n1_ n2_ n3_ n4_ n5_; clear ho hb hg hat))
               go_roundg k3
               case measure => have := HK1.out; have := HK2.out; have := HK3.out; omega
               case rel => exact ⟨(y517), (wrap64 (x10_3 + 1)), eqA, H', ⟨by have := HK1.out; have := HK2.out; have := HK3.out; omega⟩, ⟨naA HO519.out⟩, ⟨raA HO_4.out⟩, ⟨by (with_reducible repeat (first | apply Kd.N_alloc | apply Kd.N_drewN | apply Kd.N_drew)); exact Kd.N_mono HO_9.out (fun _ hk => ⟨hk.1.1, ⟨hk.2, ⟨hk.1.2.1, hk.1.2.2⟩⟩⟩)⟩, ⟨bkA BK499.out⟩, ⟨blA HB.out⟩⟩
              ·rw [if_neg c29] at H
               exact absurd H (by simp)
             ·rw [if_neg c28] at H
              exact absurd H (by simp)
            ·rw [if_neg c27] at H
             have c27b0 : decide (x10_3 < (t513.length : Int)) = false := decide_eq_false c27; clear c27; have H' := Aside0.mk H; clear H; obtain ⟨Ao32, co32, eo32⟩ := Kd.N_slice HO_9.out; subst eo32
             go_wp2
             go_roundg k3
             case measure => have := HK1.out; have := HK2.out; have := HK3.out; omega
             case rel => exact ⟨(x3_3), (wrap64 (x5_1 + 1)), eqA, H', ⟨by have := HK1.out; have := HK2.out; have := HK3.out; omega⟩, ⟨by (with_reducible repeat (first | apply Kd.N_alloc | apply Kd.N_drewN | apply Kd.N_drew)); exact Kd.N_mono HO_3.out (fun _ hk => ⟨hk.1, ⟨hk.2.1, hk.2.2.2⟩⟩)⟩, ⟨raA HO_4.out⟩, ⟨bkA BK499.out⟩, ⟨blA HB.out⟩⟩
         ·rw [if_neg c21] at H
          exact absurd H (by simp)
        ·rw [if_neg c20] at H
         exact absurd H (by simp)
    ·rw [if_neg c7] at H
     exact absurd H (by simp)
   ·rw [if_neg c6] at H
    have c6b0 : decide (x5_1 < (l0_5.length : Int)) = false := decide_eq_false c6; clear c6; obtain rfl := Option.some.inj H
    have hcz33 := fun i => blk_cell BK499.out i
    have hfz33 := fun i => blk_frozen BK499.out i
    go_wp2
    go_ret
    exact ⟨_, by first | rfl | (simp [errW_none, errW_some] <;> rfl) | (simp [*, errW_none, errW_some] <;> rfl), by (with_reducible repeat (first | apply Kd.N_alloc | apply Kd.N_drewN | apply Kd.N_drew)); exact Kd.N_mono HO_3.out (fun _ hk => hk.1), blA HB.out⟩
end Go.Proofs.Ythiiodgpdoljoaa.PLc
