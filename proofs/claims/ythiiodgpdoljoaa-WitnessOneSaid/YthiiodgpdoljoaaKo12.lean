import Derived.Test.YthiiodgpdoljoaaKo2
import Derived.Test.YthiiodgpdoljoaaKo1
import Derived.Test.YthiiodgpdoljoaaKo9
import Derived.Test.YthiiodgpdoljoaaKo8
import Derived.Test.YthiiodgpdoljoaaKo10
import Derived.Test.YthiiodgpdoljoaaKo11
-- Words and walks that the kit's print has laid for this seat, cut down, and our own texts, merged.
namespace Go.Proofs.Ythiiodgpdoljoaa.PLw
open Go.RowKit Go.Proofs.YthiiodgpdoljoaaW.PrintWords Go.Proofs.YthiiodgpdoljoaaW.PrintLast Go.Proofs.YthiiodgpdoljoaaW.PrintMore
attribute [local go_sem] max2_int min2_int max_two min_two max_three min_three max_four min_four   -- for this text's walks alone
set_option linter.unusedVariables false
set_option linter.unusedSimpArgs false
/-! ### steeplelaw27_WitnessOne: function 6 -/
mutual
def steeplelaw27_WitnessOne.j0 : Nat → List (List Int) → Bool → Int → Int → Int → Int → Int → List (S105) → Int → Int → Int → Option (Bool)
 | 0, _, _, _, _, _, _, _, _, _, _, _ => none
 | k + 1, x1, x26, x377000, x377001, x377002, x377003, x377004, x377005, x378000, x378001, x378002 => if x26 = true then ((steeplelaw27_awake.f k).bind fun t380 => (some t380)) else ((witness_Run.f k x377000 x377001 x377002 x377003 x377004 x377005 x1).bind fun bt381 => (if bt381.2 = 0 then ((witness_Holds.f k x377000 x377001 x377002 x377003 x377004 x377005 bt381.1).bind fun bt386 => (if bt386.2 = 0 then (if bt386.1 = true then (if 0 ≤ (x1.length : Int) then (if (x1.length : Int) ≤ (bt381.1.length : Int) then ((steeplelaw27_same.f k (bt381.1.take ((x1.length : Int) : Int).toNat) x1).bind fun t392 => (steeplelaw27_WitnessOne.j1 k x1 bt381.1 (!t392) x377000 x377001 x377002 x377003 x377004 x377005 x378000 x378001 x378002)) else (none)) else (none)) else (steeplelaw27_WitnessOne.j1 k x1 bt381.1 true x377000 x377001 x377002 x377003 x377004 x377005 x378000 x378001 x378002)) else (steeplelaw27_WitnessOne.j1 k x1 bt381.1 true x377000 x377001 x377002 x377003 x377004 x377005 x378000 x378001 x378002))) else ((steeplelaw27_awake.f k).bind fun t385 => (some t385))))
def steeplelaw27_WitnessOne.j1 : Nat → List (List Int) → List (List Int) → Bool → Int → Int → Int → Int → Int → List (S105) → Int → Int → Int → Option (Bool)
 | 0, _, _, _, _, _, _, _, _, _, _, _, _ => none
 | k + 1, x1, x7, x57, x377000, x377001, x377002, x377003, x377004, x377005, x378000, x378001, x378002 => if x57 = true then (some false) else ((circuit_Used.f k x377000 x377001 x377002 x377003 x377004 x377005).bind fun t393 => (if t393 = (x1.length : Int) then ((steeplelaw27_awake.f k).bind fun t394 => (some t394)) else (if (wrap64 (t393 - (x1.length : Int))) = 0 then (none) else (if 0 ≤ (wrap64 ((x1.length : Int) + (Int.tmod (wrap64 ((wrap64 ((Int.tmod x378000 (wrap64 (t393 - (x1.length : Int)))) + t393)) - (x1.length : Int))) (wrap64 (t393 - (x1.length : Int)))))) then (if (wrap64 ((x1.length : Int) + (Int.tmod (wrap64 ((wrap64 ((Int.tmod x378000 (wrap64 (t393 - (x1.length : Int)))) + t393)) - (x1.length : Int))) (wrap64 (t393 - (x1.length : Int)))))) < (x7.length : Int) then (if ((rd_L4 x7 (wrap64 ((x1.length : Int) + (Int.tmod (wrap64 ((wrap64 ((Int.tmod x378000 (wrap64 (t393 - (x1.length : Int)))) + t393)) - (x1.length : Int))) (wrap64 (t393 - (x1.length : Int))))))).length : Int) = 0 then (none) else ((steepleref15_Two.f k x377000).bind fun t398 => (if t398 = 0 then (none) else (steeplelaw27_WitnessOne.l0 k x7 (wrap64 ((x1.length : Int) + (Int.tmod (wrap64 ((wrap64 ((Int.tmod x378000 (wrap64 (t393 - (x1.length : Int)))) + t393)) - (x1.length : Int))) (wrap64 (t393 - (x1.length : Int)))))) (Int.tmod (wrap64 ((Int.tmod x378001 ((rd_L4 x7 (wrap64 ((x1.length : Int) + (Int.tmod (wrap64 ((wrap64 ((Int.tmod x378000 (wrap64 (t393 - (x1.length : Int)))) + t393)) - (x1.length : Int))) (wrap64 (t393 - (x1.length : Int))))))).length : Int)) + ((rd_L4 x7 (wrap64 ((x1.length : Int) + (Int.tmod (wrap64 ((wrap64 ((Int.tmod x378000 (wrap64 (t393 - (x1.length : Int)))) + t393)) - (x1.length : Int))) (wrap64 (t393 - (x1.length : Int))))))).length : Int))) ((rd_L4 x7 (wrap64 ((x1.length : Int) + (Int.tmod (wrap64 ((wrap64 ((Int.tmod x378000 (wrap64 (t393 - (x1.length : Int)))) + t393)) - (x1.length : Int))) (wrap64 (t393 - (x1.length : Int))))))).length : Int)) (Int.tmod (wrap64 ((Int.tmod x378002 t398) + t398)) t398) ([] : List (List Int)) 0 x377000 x377001 x377002 x377003 x377004 x377005)))) else (none)) else (none)))))
def steeplelaw27_WitnessOne.l0 : Nat → List (List Int) → Int → Int → Int → List (List Int) → Int → Int → Int → Int → Int → Int → List (S105) → Option (Bool)
 | 0, _, _, _, _, _, _, _, _, _, _, _, _ => none
 | k + 1, x7, x13, x14, x16, x17, x18, x377000, x377001, x377002, x377003, x377004, x377005 => if x18 < (x7.length : Int) then ((some (([] : List Int) : List Int)).bind fun y399 => (if 0 ≤ x18 then (if y399.length + (rd_L4 x7 x18).length < 17592186044416 then (if x17.length < 5864062014805 then (steeplelaw27_WitnessOne.l0 k x7 x13 x14 x16 (x17 ++ [(y399 ++ (rd_L4 x7 x18))]) (wrap64 (x18 + 1)) x377000 x377001 x377002 x377003 x377004 x377005) else (none)) else (none)) else (none))) else (if 0 ≤ x13 then (if x13 < (x17.length : Int) then (if 0 ≤ x14 then (if x14 < ((rd_L4 x17 x13).length : Int) then (if 0 ≤ (IntKind.u64.wrap (x16)) then ((witness_Holds.f k x377000 x377001 x377002 x377003 x377004 x377005 (x17.set (x13 : Int).toNat ((rd_L4 x17 x13).set (x14 : Int).toNat (Go.bits .xor .u64 (rd (rd_L4 x17 x13) x14) (shl .u64 1 (IntKind.u64.wrap (x16))))))).bind fun bt415 => ((steeplelaw27_awake.f k).bind fun t417 => (if t417 = true then (if bt415.2 = 0 then (some (!bt415.1)) else (some false)) else (some false)))) else (none)) else (none)) else (none)) else (none)) else (none))
end
def steeplelaw27_WitnessOne.f (k : Nat) (a0_0 : Int) (a0_1 : Int) (a0_2 : Int) (a0_3 : Int) (a0_4 : Int) (l0_5 : List (S105)) (l1 : List (List Int)) (a2_0 : Int) (a2_1 : Int) (a2_2 : Int) : Option (Bool) := (steeplelaw27_Few.f k a0_0 a0_1 a0_2 a0_3 a0_4 l0_5).bind fun t378 => (if t378 = true then ((steeplelaw27_words.f k l1 10 8).bind fun t379 => (steeplelaw27_WitnessOne.j0 k l1 (!t379) a0_0 a0_1 a0_2 a0_3 a0_4 l0_5 a2_0 a2_1 a2_2)) else (steeplelaw27_WitnessOne.j0 k l1 true a0_0 a0_1 a0_2 a0_3 a0_4 l0_5 a2_0 a2_1 a2_2))
theorem steeplelaw27_WitnessOne.mono_l : ∀ k, (∀ y0 y1 y2 y3 y4 y5 y6 y7 y8 y9 y10, LeO (steeplelaw27_WitnessOne.j0 k y0 y1 y2 y3 y4 y5 y6 y7 y8 y9 y10) (steeplelaw27_WitnessOne.j0 (k + 1) y0 y1 y2 y3 y4 y5 y6 y7 y8 y9 y10)) ∧ (∀ y0 y1 y2 y3 y4 y5 y6 y7 y8 y9 y10 y11, LeO (steeplelaw27_WitnessOne.j1 k y0 y1 y2 y3 y4 y5 y6 y7 y8 y9 y10 y11) (steeplelaw27_WitnessOne.j1 (k + 1) y0 y1 y2 y3 y4 y5 y6 y7 y8 y9 y10 y11)) ∧ (∀ y0 y1 y2 y3 y4 y5 y6 y7 y8 y9 y10 y11, LeO (steeplelaw27_WitnessOne.l0 k y0 y1 y2 y3 y4 y5 y6 y7 y8 y9 y10 y11) (steeplelaw27_WitnessOne.l0 (k + 1) y0 y1 y2 y3 y4 y5 y6 y7 y8 y9 y10 y11))
 | 0 => ⟨fun _ _ _ _ _ _ _ _ _ _ _ r h => by simp [steeplelaw27_WitnessOne.j0] at h, fun _ _ _ _ _ _ _ _ _ _ _ _ r h => by simp [steeplelaw27_WitnessOne.j1] at h, fun _ _ _ _ _ _ _ _ _ _ _ _ r h => by simp [steeplelaw27_WitnessOne.l0] at h⟩
 | k + 1 => by
  obtain ⟨ih0, ih1, ih2⟩ := steeplelaw27_WitnessOne.mono_l k
  refine ⟨?_, ?_, ?_⟩
  ·intro y0 y1 y2 y3 y4 y5 y6 y7 y8 y9 y10
   unfold steeplelaw27_WitnessOne.j0
   repeat' first
   | (with_reducible exact ih0 _ _ _ _ _ _ _ _ _ _ _)
   | (with_reducible exact ih1 _ _ _ _ _ _ _ _ _ _ _ _)
   | (with_reducible exact ih2 _ _ _ _ _ _ _ _ _ _ _ _)
   | (with_reducible exact circuit_Used.mono _ _ _ _ _ _ _)
   | (with_reducible exact steeplelaw27_Few.mono _ _ _ _ _ _ _)
   | (with_reducible exact steeplelaw27_awake.mono _)
   | (with_reducible exact steeplelaw27_same.mono _ _ _)
   | (with_reducible exact steeplelaw27_words.mono _ _ _ _)
   | (with_reducible exact steepleref15_Two.mono _ _)
   | (with_reducible exact witness_Holds.mono _ _ _ _ _ _ _ _)
   | (with_reducible exact witness_Run.mono _ _ _ _ _ _ _ _)
   | (with_reducible exact LeO.refl _)
   | (with_reducible exact LeO.none _)
   | (with_reducible refine LeO.ite ?_ ?_)
   | (with_reducible refine LeO.bind ?_ (fun _ => ?_))
   | exact ih0 _ _ _ _ _ _ _ _ _ _ _
   | exact ih1 _ _ _ _ _ _ _ _ _ _ _ _
   | exact ih2 _ _ _ _ _ _ _ _ _ _ _ _
   | exact circuit_Used.mono _ _ _ _ _ _ _
   | exact steeplelaw27_Few.mono _ _ _ _ _ _ _
   | exact steeplelaw27_awake.mono _
   | exact steeplelaw27_same.mono _ _ _
   | exact steeplelaw27_words.mono _ _ _ _
   | exact steepleref15_Two.mono _ _
   | exact witness_Holds.mono _ _ _ _ _ _ _ _
   | exact witness_Run.mono _ _ _ _ _ _ _ _
   | exact LeO.none _
   | refine LeO.ite ?_ ?_
   | refine LeO.bind ?_ (fun _ => ?_)
  ·intro y0 y1 y2 y3 y4 y5 y6 y7 y8 y9 y10 y11
   unfold steeplelaw27_WitnessOne.j1
   repeat' first
   | (with_reducible exact ih0 _ _ _ _ _ _ _ _ _ _ _)
   | (with_reducible exact ih1 _ _ _ _ _ _ _ _ _ _ _ _)
   | (with_reducible exact ih2 _ _ _ _ _ _ _ _ _ _ _ _)
   | (with_reducible exact circuit_Used.mono _ _ _ _ _ _ _)
   | (with_reducible exact steeplelaw27_Few.mono _ _ _ _ _ _ _)
   | (with_reducible exact steeplelaw27_awake.mono _)
   | (with_reducible exact steeplelaw27_same.mono _ _ _)
   | (with_reducible exact steeplelaw27_words.mono _ _ _ _)
   | (with_reducible exact steepleref15_Two.mono _ _)
   | (with_reducible exact witness_Holds.mono _ _ _ _ _ _ _ _)
   | (with_reducible exact witness_Run.mono _ _ _ _ _ _ _ _)
   | (with_reducible exact LeO.refl _)
   | (with_reducible exact LeO.none _)
   | (with_reducible refine LeO.ite ?_ ?_)
   | (with_reducible refine LeO.bind ?_ (fun _ => ?_))
   | exact ih0 _ _ _ _ _ _ _ _ _ _ _
   | exact ih1 _ _ _ _ _ _ _ _ _ _ _ _
   | exact ih2 _ _ _ _ _ _ _ _ _ _ _ _
   | exact circuit_Used.mono _ _ _ _ _ _ _
   | exact steeplelaw27_Few.mono _ _ _ _ _ _ _
   | exact steeplelaw27_awake.mono _
   | exact steeplelaw27_same.mono _ _ _
   | exact steeplelaw27_words.mono _ _ _ _
   | exact steepleref15_Two.mono _ _
   | exact witness_Holds.mono _ _ _ _ _ _ _ _
   | exact witness_Run.mono _ _ _ _ _ _ _ _
   | exact LeO.none _
   | refine LeO.ite ?_ ?_
   | refine LeO.bind ?_ (fun _ => ?_)
  ·intro y0 y1 y2 y3 y4 y5 y6 y7 y8 y9 y10 y11
   unfold steeplelaw27_WitnessOne.l0
   repeat' first
   | (with_reducible exact ih0 _ _ _ _ _ _ _ _ _ _ _)
   | (with_reducible exact ih1 _ _ _ _ _ _ _ _ _ _ _ _)
   | (with_reducible exact ih2 _ _ _ _ _ _ _ _ _ _ _ _)
   | (with_reducible exact circuit_Used.mono _ _ _ _ _ _ _)
   | (with_reducible exact steeplelaw27_Few.mono _ _ _ _ _ _ _)
   | (with_reducible exact steeplelaw27_awake.mono _)
   | (with_reducible exact steeplelaw27_same.mono _ _ _)
   | (with_reducible exact steeplelaw27_words.mono _ _ _ _)
   | (with_reducible exact steepleref15_Two.mono _ _)
   | (with_reducible exact witness_Holds.mono _ _ _ _ _ _ _ _)
   | (with_reducible exact witness_Run.mono _ _ _ _ _ _ _ _)
   | (with_reducible exact LeO.refl _)
   | (with_reducible exact LeO.none _)
   | (with_reducible refine LeO.ite ?_ ?_)
   | (with_reducible refine LeO.bind ?_ (fun _ => ?_))
   | exact ih0 _ _ _ _ _ _ _ _ _ _ _
   | exact ih1 _ _ _ _ _ _ _ _ _ _ _ _
   | exact ih2 _ _ _ _ _ _ _ _ _ _ _ _
   | exact circuit_Used.mono _ _ _ _ _ _ _
   | exact steeplelaw27_Few.mono _ _ _ _ _ _ _
   | exact steeplelaw27_awake.mono _
   | exact steeplelaw27_same.mono _ _ _
   | exact steeplelaw27_words.mono _ _ _ _
   | exact steepleref15_Two.mono _ _
   | exact witness_Holds.mono _ _ _ _ _ _ _ _
   | exact witness_Run.mono _ _ _ _ _ _ _ _
   | exact LeO.none _
   | refine LeO.ite ?_ ?_
   | refine LeO.bind ?_ (fun _ => ?_)
theorem steeplelaw27_WitnessOne.mono : ∀ a0 a1 a2 a3 a4 a5 a6 a7 a8 a9 k, LeO (steeplelaw27_WitnessOne.f k a0 a1 a2 a3 a4 a5 a6 a7 a8 a9) (steeplelaw27_WitnessOne.f (k + 1) a0 a1 a2 a3 a4 a5 a6 a7 a8 a9) := by
 intro a0 a1 a2 a3 a4 a5 a6 a7 a8 a9 k
 obtain ⟨ih0, ih1, ih2⟩ := steeplelaw27_WitnessOne.mono_l k
 unfold steeplelaw27_WitnessOne.f
 repeat' first
   | (with_reducible exact ih0 _ _ _ _ _ _ _ _ _ _ _)
   | (with_reducible exact ih1 _ _ _ _ _ _ _ _ _ _ _ _)
   | (with_reducible exact ih2 _ _ _ _ _ _ _ _ _ _ _ _)
   | (with_reducible exact circuit_Used.mono _ _ _ _ _ _ _)
   | (with_reducible exact steeplelaw27_Few.mono _ _ _ _ _ _ _)
   | (with_reducible exact steeplelaw27_awake.mono _)
   | (with_reducible exact steeplelaw27_same.mono _ _ _)
   | (with_reducible exact steeplelaw27_words.mono _ _ _ _)
   | (with_reducible exact steepleref15_Two.mono _ _)
   | (with_reducible exact witness_Holds.mono _ _ _ _ _ _ _ _)
   | (with_reducible exact witness_Run.mono _ _ _ _ _ _ _ _)
   | (with_reducible exact LeO.refl _)
   | (with_reducible exact LeO.none _)
   | (with_reducible refine LeO.ite ?_ ?_)
   | (with_reducible refine LeO.bind ?_ (fun _ => ?_))
   | exact ih0 _ _ _ _ _ _ _ _ _ _ _
   | exact ih1 _ _ _ _ _ _ _ _ _ _ _ _
   | exact ih2 _ _ _ _ _ _ _ _ _ _ _ _
   | exact circuit_Used.mono _ _ _ _ _ _ _
   | exact steeplelaw27_Few.mono _ _ _ _ _ _ _
   | exact steeplelaw27_awake.mono _
   | exact steeplelaw27_same.mono _ _ _
   | exact steeplelaw27_words.mono _ _ _ _
   | exact steepleref15_Two.mono _ _
   | exact witness_Holds.mono _ _ _ _ _ _ _ _
   | exact witness_Run.mono _ _ _ _ _ _ _ _
   | exact LeO.none _
   | refine LeO.ite ?_ ?_
   | refine LeO.bind ?_ (fun _ => ?_)
def steeplelaw27_WitnessOne.T13 : Bool × List (List Nat × List Nat) := (true, [([], []), ([0], [0]), ([], []), ([], []), ([2, 3], [2, 3]), ([4], [4]), ([5], [5]), ([1, 6], [1, 6]), ([], []), ([], []), ([8, 9], [8, 9]), ([10], [10]), ([11], [11]), ([7, 12], [7, 12]), ([], []), ([], []), ([14, 15], [14, 15]), ([16], [16]), ([17], [17]), ([13, 18], [13, 18]), ([19, 0, 1, 2, 3, 4, 5, 6, 7, 8, 9, 10, 11, 12, 13, 14, 15, 16, 17, 18, 19], [19])])
def steeplelaw27_WitnessOne.B13 : List Nat := [0, 1, 0, 0, 12, 28, 60, 127, 0, 0, 768, 1792, 3840, 8191, 0, 0, 49152, 114688, 245760, 524287, 1048575]
theorem steeplelaw27_WitnessOne.tab13 : rtab .any (opsOf Try.f6 13) = steeplelaw27_WitnessOne.T13 := by kernel_rfl
theorem steeplelaw27_WitnessOne.bits13 : waitsOk steeplelaw27_WitnessOne.T13.2 steeplelaw27_WitnessOne.B13 = true := by kernel_rfl
def steeplelaw27_WitnessOne.T21 : Bool × List (List Nat × List Nat) := (true, [([], []), ([], []), ([0, 1], [0, 1]), ([2], [2]), ([], []), ([], []), ([], []), ([5, 6], [5, 6]), ([7], [7]), ([], []), ([8, 9], [8, 9]), ([10], [10]), ([], []), ([12], [12]), ([13], [13]), ([11, 14], [11, 14]), ([3, 4, 0, 1, 2, 3, 4, 5, 6, 7, 8, 9, 10, 11, 12, 13, 14, 15], [3, 4]), ([16, 15, 0, 1, 2, 3, 4, 5, 6, 7, 8, 9, 10, 11, 12, 13, 14, 15], [15, 16])])
def steeplelaw27_WitnessOne.B21 : List Nat := [0, 0, 3, 7, 0, 0, 0, 96, 224, 0, 992, 2016, 0, 4096, 12288, 32736, 65535, 131071]
theorem steeplelaw27_WitnessOne.tab21 : rtab .any (opsOf Try.f6 21) = steeplelaw27_WitnessOne.T21 := by kernel_rfl
theorem steeplelaw27_WitnessOne.bits21 : waitsOk steeplelaw27_WitnessOne.T21.2 steeplelaw27_WitnessOne.B21 = true := by kernel_rfl
set_option maxHeartbeats 8000000 in
set_option maxRecDepth 100000 in
theorem steeplelaw27_WitnessOne.calls (k : Nat) (a0_0 : Int) (a0_1 : Int) (a0_2 : Int) (a0_3 : Int) (a0_4 : Int) (A0_5 : Option Addr) (c0_5 : Nat) (l0_5 : List (S105)) (A1 : Option Addr) (c1 : Nat) (l1 : List (List Int)) (a2_0 : Int) (a2_1 : Int) (a2_2 : Int) (r : Bool) (w : World) (hr0_5 : Kd.C k105 w A0_5 l0_5.length l0_5) (hc0_5 : l0_5.length ≤ c0_5) (hr1 : Kd.C (Kd.slice 43 (Kd.int .u64)) w A1 l1.length l1) (hc1 : l1.length ≤ c1) (h : steeplelaw27_WitnessOne.f k a0_0 a0_1 a0_2 a0_3 a0_4 l0_5 l1 a2_0 a2_1 a2_2 = some r) :
  Calls Try.prog 6 #[.agg #[.int .i64 a0_0, .int .i64 a0_1, .int .i64 a0_2, .int .i64 a0_3, .int .i64 a0_4, .slice A0_5 l0_5.length c0_5], .slice A1 l1.length c1, .agg #[.int .i64 a2_0, .int .i64 a2_1, .int .i64 a2_2]] w fun e w' => e = .returned (.bool r) ∧ Below w.heap.size w w' := by
 have hu24 := Try.underlying24; have hu65 := Try.underlying65; have HR0_5 := Aside0.mk hr0_5; have HC0_5 := Aside0.mk hc0_5; clear hr0_5 hc0_5; have HR1 := Aside0.mk hr1; have HC1 := Aside0.mk hc1; clear hr1 hc1; have HB := Aside0.mk (Below.refl w.heap.size w)
 have H : ((steeplelaw27_Few.f k a0_0 a0_1 a0_2 a0_3 a0_4 l0_5).bind fun t378 => (if t378 = true then ((steeplelaw27_words.f k l1 10 8).bind fun t379 => (steeplelaw27_WitnessOne.j0 k l1 (!t379) a0_0 a0_1 a0_2 a0_3 a0_4 l0_5 a2_0 a2_1 a2_2)) else (steeplelaw27_WitnessOne.j0 k l1 true a0_0 a0_1 a0_2 a0_3 a0_4 l0_5 a2_0 a2_1 a2_2))) = some r := h
 clear h; have HC4 := Aside0.mk H; clear H
 go_enter Try.func6, Try.ntmps6
 go_upto_region 1 with (first | ((with_reducible refine gate_dst (N := 3) rfl ?_); (try (refine gate_guard (by rfl) ?_; dsimp only)); refine box_event ?hg (N := 3) ?hd (cs := #[.int .i64 a0_0, .int .i64 a0_1, .int .i64 a0_2, .int .i64 a0_3, .int .i64 a0_4, .slice A0_5 l0_5.length c0_5]) (t := 24) ?hr ?_; (case hd => rfl); (case hg => rfl); (case hr => first | (go_simp; done) | (go_simp; rfl)); intro gb376 hg w5 hbox hb; have n0_ := Aside0.mk (below_step (blA HB.out) hb); have n1_ := Aside0.mk (hbox); have n2_ := Aside0.mk ((by rw [hg]; exact (below_size (blA HB.out)) : w.heap.size ≤ gb376)); have n3_ := Aside0.mk ((by rw [hg]; exact (below_size (blA HB.out)) : w.heap.size ≤ gb376)); clear HB; have HB := n0_; have BK376 := n1_; have GW376 := n2_; have GE376 := n3_; clear n0_ n1_ n2_ n3_; clear hb hbox hg) | ((with_reducible refine gate_dst (N := 5) rfl ?_); (try (refine gate_guard (by rfl) ?_; dsimp only)); refine box_event ?hg (N := 5) ?hd (cs := #[.int .i64 a2_0, .int .i64 a2_1, .int .i64 a2_2]) (t := 65) ?hr ?_; (case hd => rfl); (case hg => rfl); (case hr => first | (go_simp; done) | (go_simp; rfl)); intro gb377 hg w6 hbox hb; have n0_ := Aside0.mk (blk_below (bkA BK376.out) hb); have n1_ := Aside0.mk (below_step (blA HB.out) hb); have n2_ := Aside0.mk (hbox); have n3_ := Aside0.mk ((by rw [hg]; exact (below_size (blA HB.out)) : w.heap.size ≤ gb377)); have n4_ := Aside0.mk ((by rw [hg]; exact (below_size (blA HB.out)) : w.heap.size ≤ gb377)); have n5_ := Aside0.mk ((by rw [hg]; exact Nat.ne_of_lt (blk_lt (bkA BK376.out)) : gb376 ≠ gb377)); have n6_ := Aside0.mk ((by rw [hg]; exact Nat.ne_of_gt (blk_lt (bkA BK376.out)) : gb377 ≠ gb376)); clear BK376; clear HB; have BK376 := n0_; have HB := n1_; have BK377 := n2_; have GW377 := n3_; have GE377 := n4_; have NB376_377 := n5_; have NB377_376 := n6_; clear n0_ n1_ n2_ n3_ n4_ n5_ n6_; clear hb hbox hg))
 (try simp only [Act.put, List.setIfInBounds_toArray, List.set_cons_zero, List.set_cons_succ])
 go_cut [26] (fun v26 wc => ∃ (kq : Nat) (x26_3 : Bool), v26 = .bool x26_3 ∧ Aside0 (steeplelaw27_WitnessOne.j0 kq l1 x26_3 a0_0 a0_1 a0_2 a0_3 a0_4 l0_5 a2_0 a2_1 a2_2 = some r) ∧ Aside0 (kq ≤ k) ∧ Aside0 (wc.heap[gb376]? = some (.cells #[.int .i64 a0_0, .int .i64 a0_1, .int .i64 a0_2, .int .i64 a0_3, .int .i64 a0_4, (.slice A0_5 l0_5.length c0_5)] 24 (0, 0))) ∧ Aside0 (wc.heap[gb377]? = some (.cells #[.int .i64 a2_0, .int .i64 a2_1, .int .i64 a2_2] 65 (0, 0))) ∧ Aside0 (Below w.heap.size w wc))
 case first =>
  have H := HC4.out; clear HC4; replace H := Option.bind_eq_some_iff.mp H; obtain ⟨t378, A70, H⟩ := H
  (try dsimp only at H)
  have A7 := Aside0.mk A70; clear A70
  by_cases c8 : t378 = true
  ·subst c8
   have H1 : ((steeplelaw27_words.f k l1 10 8).bind fun t379 => (steeplelaw27_WitnessOne.j0 k l1 (!t379) a0_0 a0_1 a0_2 a0_3 a0_4 l0_5 a2_0 a2_1 a2_2)) = some r := by rw [if_pos rfl] at H; exact H
   clear H; have H := H1; clear H1; replace H := Option.bind_eq_some_iff.mp H; obtain ⟨t379, A90, H⟩ := H; replace H : (steeplelaw27_WitnessOne.j0 k l1 (!t379) a0_0 a0_1 a0_2 a0_3 a0_4 l0_5 a2_0 a2_1 a2_2) = some r := H; have A9 := Aside0.mk A90; clear A90; have H' := Aside0.mk H; clear H; have hnb10 := NB376_377.out; have hnc10 := NB377_376.out
   have hcz11 := fun i => blk_cell BK376.out i
   have hfz11 := fun i => blk_frozen BK376.out i
   go_wp2_with (first | ((with_reducible refine gate_callee (f := 25) rfl ?_); refine goesL_ (some 20) rfl rfl Try.func25 (by kernel_rfl) rfl #[.agg #[.int .i64 a0_0, .int .i64 a0_1, .int .i64 a0_2, .int .i64 a0_3, .int .i64 a0_4, .slice A0_5 l0_5.length c0_5]] rfl gsA ?_; (with_reducible refine (steeplelaw27_Few.calls k a0_0 a0_1 a0_2 a0_3 a0_4 _ _ l0_5 true _ ?side1 ?side2 A7.out).mono ?_); (case side1 => repeat (first | exact (Kd.C_below HR0_5.out HB.out) | (with_reducible refine Kd.C_alloc ?_ _) | (with_reducible refine Kd.C_drewN ?_ _) | (with_reducible refine Kd.C_drew ?_))); (case side2 => exact HC0_5.out); rintro e w12 ⟨rfl, hb⟩; refine ⟨_, rfl, ?_⟩; have n0_ := Aside0.mk (blk_below (bkA BK376.out) hb); have n1_ := Aside0.mk (blk_below (bkA BK377.out) hb); have n2_ := Aside0.mk (below_step (blA HB.out) hb); clear BK376; clear BK377; clear HB; have BK376 := n0_; have BK377 := n1_; have HB := n2_; clear n0_ n1_ n2_; (try clear hb)) | (go_at_call 26; (with_reducible refine (steeplelaw27_words.calls k _ _ l1 10 8 t379 _ ?side1 ?side2 A9.out).mono ?_); (case side1 => repeat (first | exact (Kd.C_below HR1.out HB.out) | (with_reducible refine Kd.C_alloc ?_ _) | (with_reducible refine Kd.C_drewN ?_ _) | (with_reducible refine Kd.C_drew ?_))); (case side2 => exact HC1.out); rintro e w' ⟨rfl, ⟨nd, rfl⟩⟩))
   go_meet
   case rel => exact ⟨_, (!t379), eqA, H', ⟨omA⟩, ⟨bkA BK376.out⟩, ⟨bkA BK377.out⟩, ⟨blA HB.out⟩⟩
  ·replace c8 := Bool.eq_false_iff.mpr c8; subst c8
   have H1 : (steeplelaw27_WitnessOne.j0 k l1 true a0_0 a0_1 a0_2 a0_3 a0_4 l0_5 a2_0 a2_1 a2_2) = some r := by rw [if_neg (show ¬ (false = true) by decide)] at H; exact H
   clear H; have H := H1; clear H1; have H' := Aside0.mk H; clear H; have hnb13 := NB376_377.out; have hnc13 := NB377_376.out
   have hcz14 := fun i => blk_cell BK376.out i
   have hfz14 := fun i => blk_frozen BK376.out i
   go_wp2_with (first | ((with_reducible refine gate_callee (f := 25) rfl ?_); refine goesL_ (some 20) rfl rfl Try.func25 (by kernel_rfl) rfl #[.agg #[.int .i64 a0_0, .int .i64 a0_1, .int .i64 a0_2, .int .i64 a0_3, .int .i64 a0_4, .slice A0_5 l0_5.length c0_5]] rfl gsA ?_; (with_reducible refine (steeplelaw27_Few.calls k a0_0 a0_1 a0_2 a0_3 a0_4 _ _ l0_5 false _ ?side1 ?side2 A7.out).mono ?_); (case side1 => repeat (first | exact (Kd.C_below HR0_5.out HB.out) | (with_reducible refine Kd.C_alloc ?_ _) | (with_reducible refine Kd.C_drewN ?_ _) | (with_reducible refine Kd.C_drew ?_))); (case side2 => exact HC0_5.out); rintro e w15 ⟨rfl, hb⟩; refine ⟨_, rfl, ?_⟩; have n0_ := Aside0.mk (blk_below (bkA BK376.out) hb); have n1_ := Aside0.mk (blk_below (bkA BK377.out) hb); have n2_ := Aside0.mk (below_step (blA HB.out) hb); clear BK376; clear BK377; clear HB; have BK376 := n0_; have BK377 := n1_; have HB := n2_; clear n0_ n1_ n2_; (try clear hb)))
   go_meet
   case rel => exact ⟨_, (true), eqA, H', ⟨omA⟩, ⟨bkA BK376.out⟩, ⟨bkA BK377.out⟩, ⟨blA HB.out⟩⟩
 case rest =>
  clear HC4; (try clear c1); (try clear c2); (try clear p2); (try clear c6); (try clear c8); (try clear c10); (try clear c13); (try clear hcz11); (try clear hcz14); (try clear hfz11); (try clear hfz14); obtain ⟨kq, x26_3, rfl, HA, HJ3, BK376, BK377, HB⟩ := hcut
  cases kq with
  | zero => exact absurd HA.out (by simp [steeplelaw27_WitnessOne.j0])
  | succ kj3 =>
   have H := HA.out; clear HA
   simp only [steeplelaw27_WitnessOne.j0] at H
   by_cases c16 : x26_3 = true
   ·subst c16
    have H1 : ((steeplelaw27_awake.f kj3).bind fun t380 => (some t380)) = some r := by rw [if_pos rfl] at H; exact H
    clear H; have H := H1; clear H1; replace H := Option.bind_eq_some_iff.mp H; obtain ⟨t380, A170, H⟩ := H; replace H : (some t380) = some r := H; have A17 := Aside0.mk A170; clear A170; obtain rfl := Option.some.inj H
    go_wp2_with (first | ((with_reducible refine gate_callee (f := 27) rfl ?_); refine goesL_ (some 27) rfl rfl Try.func27 (by kernel_rfl) rfl #[] rfl gsA ?_; (with_reducible refine (steeplelaw27_awake.calls kj3  t380 _ A17.out).mono ?_); rintro e w18 ⟨rfl, hb⟩; refine ⟨_, rfl, ?_⟩; have n0_ := Aside0.mk (blk_below (bkA BK376.out) hb); have n1_ := Aside0.mk (blk_below (bkA BK377.out) hb); have n2_ := Aside0.mk (below_step (blA HB.out) hb); clear BK376; clear BK377; clear HB; have BK376 := n0_; have BK377 := n1_; have HB := n2_; clear n0_ n1_ n2_; (try clear hb)))
    go_ret
    exact ⟨by first | rfl | (simp [errW_none, errW_some] <;> rfl) | (simp [*, errW_none, errW_some] <;> rfl), blA HB.out⟩
   ·replace c16 := Bool.eq_false_iff.mpr c16; subst c16
    have H1 : ((witness_Run.f kj3 a0_0 a0_1 a0_2 a0_3 a0_4 l0_5 l1).bind fun bt381 => (if bt381.2 = 0 then ((witness_Holds.f kj3 a0_0 a0_1 a0_2 a0_3 a0_4 l0_5 bt381.1).bind fun bt386 => (if bt386.2 = 0 then (if bt386.1 = true then (if 0 ≤ (l1.length : Int) then (if (l1.length : Int) ≤ (bt381.1.length : Int) then ((steeplelaw27_same.f kj3 (bt381.1.take ((l1.length : Int) : Int).toNat) l1).bind fun t392 => (steeplelaw27_WitnessOne.j1 kj3 l1 bt381.1 (!t392) a0_0 a0_1 a0_2 a0_3 a0_4 l0_5 a2_0 a2_1 a2_2)) else (none)) else (none)) else (steeplelaw27_WitnessOne.j1 kj3 l1 bt381.1 true a0_0 a0_1 a0_2 a0_3 a0_4 l0_5 a2_0 a2_1 a2_2)) else (steeplelaw27_WitnessOne.j1 kj3 l1 bt381.1 true a0_0 a0_1 a0_2 a0_3 a0_4 l0_5 a2_0 a2_1 a2_2))) else ((steeplelaw27_awake.f kj3).bind fun t385 => (some t385)))) = some r := by rw [if_neg (show ¬ (false = true) by decide)] at H; exact H
    clear H; have H := H1; clear H1; replace H := Option.bind_eq_some_iff.mp H
    obtain ⟨⟨t381, t384⟩, A190, H⟩ := H
    (try dsimp only at H)
    have A19 := Aside0.mk A190; clear A190
    by_cases c20 : t384 = 0
    ·rw [if_pos c20] at H
     have c20b0 : (t384 == 0) = true := beq_iff_eq.mpr c20; have c20b1 : (t384 != 0) = false := bne_eq_false_iff_eq.mpr c20; clear c20; replace H := Option.bind_eq_some_iff.mp H
     obtain ⟨⟨t386, t387⟩, A210, H⟩ := H
     (try dsimp only at H)
     have A21 := Aside0.mk A210; clear A210; have HC22 := Aside0.mk H; clear H; have hnb23 := NB376_377.out; have hnc23 := NB377_376.out
     have hcz24 := fun i => blk_cell BK376.out i
     have hfz24 := fun i => blk_frozen BK376.out i
     go_upto_region 7 with (first | ((with_reducible refine gate_callee (f := 28) rfl ?_); refine goesL_ (some 31) rfl rfl Try.func28 (by kernel_rfl) rfl #[.agg #[.int .i64 a0_0, .int .i64 a0_1, .int .i64 a0_2, .int .i64 a0_3, .int .i64 a0_4, .slice A0_5 l0_5.length c0_5], .slice A1 l1.length c1] rfl gsA ?_; (with_reducible refine (witness_Run.calls kj3 a0_0 a0_1 a0_2 a0_3 a0_4 _ _ l0_5 _ _ l1 t381 t384 _ ?side1 ?side2 ?side3 ?side4 A19.out).mono ?_); (case side1 => repeat (first | exact (Kd.C_below HR0_5.out HB.out) | (with_reducible refine Kd.C_alloc ?_ _) | (with_reducible refine Kd.C_drewN ?_ _) | (with_reducible refine Kd.C_drew ?_))); (case side2 => exact HC0_5.out); (case side3 => repeat (first | exact (Kd.C_below HR1.out HB.out) | (with_reducible refine Kd.C_alloc ?_ _) | (with_reducible refine Kd.C_drewN ?_ _) | (with_reducible refine Kd.C_drew ?_))); (case side4 => exact HC1.out); rintro e w25 ⟨v382, rfl, ho0, hb⟩; refine ⟨_, rfl, ?_⟩; have n0_ := Aside0.mk (Kd.S_lower ho0 (below_size (blA HB.out))); have n1_ := Aside0.mk (blk_below (bkA BK376.out) hb); have n2_ := Aside0.mk (blk_below (bkA BK377.out) hb); have n3_ := Aside0.mk (below_step (blA HB.out) hb); clear BK376; clear BK377; clear HB; have HO383 := n0_; have BK376 := n1_; have BK377 := n2_; have HB := n3_; clear n0_ n1_ n2_ n3_; (try clear hb); (try clear ho0); have hcz26 := fun i => blk_cell BK376.out i; have hfz26 := fun i => blk_frozen BK376.out i; obtain ⟨Ao27, co27, eo27⟩ := Kd.S_slice HO383.out; subst eo27) | ((with_reducible refine gate_callee (f := 31) rfl ?_); refine goesL_ (some 40) rfl rfl Try.func31 (by kernel_rfl) rfl #[.agg #[.int .i64 a0_0, .int .i64 a0_1, .int .i64 a0_2, .int .i64 a0_3, .int .i64 a0_4, .slice A0_5 l0_5.length c0_5], .slice Ao27 t381.length co27] rfl gsA ?_; (with_reducible refine (witness_Holds.calls kj3 a0_0 a0_1 a0_2 a0_3 a0_4 _ _ l0_5 _ _ t381 t386 t387 _ ?side1 ?side2 ?side3 ?side4 A21.out).mono ?_); (case side1 => repeat (first | exact (Kd.C_below HR0_5.out HB.out) | (with_reducible refine Kd.C_alloc ?_ _) | (with_reducible refine Kd.C_drewN ?_ _) | (with_reducible refine Kd.C_drew ?_))); (case side2 => exact HC0_5.out); (case side3 => repeat (first | exact (Kd.S_reads' HO383.out).2.2 | (with_reducible refine Kd.C_alloc ?_ _) | (with_reducible refine Kd.C_drewN ?_ _) | (with_reducible refine Kd.C_drew ?_))); (case side4 => exact (Kd.S_reads' HO383.out).2.1); rintro e w28 ⟨rfl, hb⟩; refine ⟨_, rfl, ?_⟩; have n0_ := Aside0.mk (Kd.S_below (by (with_reducible repeat (first | apply Kd.S_alloc | apply Kd.S_drewN | apply Kd.S_drew)); exact HO383.out) hb); have n1_ := Aside0.mk (blk_below (bkA BK376.out) hb); have n2_ := Aside0.mk (blk_below (bkA BK377.out) hb); have n3_ := Aside0.mk (below_step (blA HB.out) hb); clear HO383; clear BK376; clear BK377; clear HB; have HO383 := n0_; have BK376 := n1_; have BK377 := n2_; have HB := n3_; clear n0_ n1_ n2_ n3_; (try clear hb)))
     (try simp only [Act.put, List.setIfInBounds_toArray, List.set_cons_zero, List.set_cons_succ])
     go_cut [57] (fun v57 wc => ∃ (kq : Nat) (x57_21 : Bool), v57 = .bool x57_21 ∧ Aside0 (steeplelaw27_WitnessOne.j1 kq l1 t381 x57_21 a0_0 a0_1 a0_2 a0_3 a0_4 l0_5 a2_0 a2_1 a2_2 = some r) ∧ Aside0 (kq ≤ kj3) ∧ Aside0 (Kd.S (Kd.slice 43 (Kd.int .u64)) 68 wc w.heap.size (fun _ => True) (.slice Ao27 t381.length co27) t381) ∧ Aside0 (wc.heap[gb376]? = some (.cells #[.int .i64 a0_0, .int .i64 a0_1, .int .i64 a0_2, .int .i64 a0_3, .int .i64 a0_4, (.slice A0_5 l0_5.length c0_5)] 24 (0, 0))) ∧ Aside0 (wc.heap[gb377]? = some (.cells #[.int .i64 a2_0, .int .i64 a2_1, .int .i64 a2_2] 65 (0, 0))) ∧ Aside0 (Below w.heap.size w wc))
     case first =>
      have H := HC22.out; clear HC22
      by_cases c29 : t387 = 0
      ·rw [if_pos c29] at H
       have c29b0 : (t387 == 0) = true := beq_iff_eq.mpr c29; have c29b1 : (t387 != 0) = false := bne_eq_false_iff_eq.mpr c29; clear c29
       (first | rw [c29b0] | (simp only [i64_w, i32_w]; rw [c29b0]) | skip)
       by_cases c30 : t386 = true
       ·subst c30
        have H1 : (if 0 ≤ (l1.length : Int) then (if (l1.length : Int) ≤ (t381.length : Int) then ((steeplelaw27_same.f kj3 (t381.take ((l1.length : Int) : Int).toNat) l1).bind fun t392 => (steeplelaw27_WitnessOne.j1 kj3 l1 t381 (!t392) a0_0 a0_1 a0_2 a0_3 a0_4 l0_5 a2_0 a2_1 a2_2)) else (none)) else (none)) = some r := by rw [if_pos rfl] at H; exact H
        clear H; have H := H1; clear H1
        by_cases c31 : 0 ≤ (l1.length : Int)
        ·rw [if_pos c31] at H
         have c31b0 := eq_true c31; have c31b1 : decide (0 ≤ (l1.length : Int)) = true := decide_eq_true c31; clear c31
         by_cases c32 : (l1.length : Int) ≤ (t381.length : Int)
         ·rw [if_pos c32] at H
          have c32b0 := eq_true c32; have c32b1 : decide ((l1.length : Int) ≤ (t381.length : Int)) = true := decide_eq_true c32; clear c32
          obtain ⟨y388, hy388⟩ : ∃ y_ : List (List Int), y_ = (t381.take ((l1.length : Int) : Int).toNat) := ⟨_, rfl⟩
          replace H : ((steeplelaw27_same.f kj3 y388 l1).bind fun t392 => (steeplelaw27_WitnessOne.j1 kj3 l1 t381 (!t392) a0_0 a0_1 a0_2 a0_3 a0_4 l0_5 a2_0 a2_1 a2_2)) = some r := by first | (rw [hy388]; with_reducible exact H) | (have H2_ := (Option.bind_some _ _).symm.trans H; rw [hy388]; with_reducible exact H2_) | (have H2_ := (Option.bind_some _ _).symm.trans H; with_reducible exact H2_) | with_reducible exact H | (rw [hy388]; exact H) | exact H
          have Ny388 := Aside0.mk hy388; clear hy388; replace H := Option.bind_eq_some_iff.mp H; obtain ⟨t392, A330, H⟩ := H; replace H : (steeplelaw27_WitnessOne.j1 kj3 l1 t381 (!t392) a0_0 a0_1 a0_2 a0_3 a0_4 l0_5 a2_0 a2_1 a2_2) = some r := H; have A33 := Aside0.mk A330; clear A330; have H' := Aside0.mk H; clear H
          have q34 : ((l1.length : Int) : Int) ≤ ((t381.length : Int) : Int) := of_decide_eq_true (by first | (with_reducible assumption) | assumption)
          obtain ⟨i034, hi034, _, hsz34, _⟩ := info_parts info68; have hroom34 : t381.length ≤ co27 := (Kd.S_reads' HO383.out).2.1; have hC34 : Kd.C (Kd.slice 43 (Kd.int .u64)) _ Ao27 t381.length t381 := (Kd.S_reads' HO383.out).2.2
          have hcut34 := cut_to (P := Try.prog) 56 68 .i64 Try.underlying56 hi034 Ao27 t381.length co27 (l1.length : Int) (of_decide_eq_true (by first | (with_reducible assumption) | assumption)) q34 hroom34
          have hr34 := Kd.C_take (m := ((l1.length : Int) : Int).toNat) hC34 (by omega)
          have hy34 : y388.length = ((l1.length : Int) : Int).toNat := (by rw [Ny388.out, List.length_take]; omega)
          rw [← Ny388.out] at hr34
          rw [← hy34] at hcut34
          have HR391 := Aside0.mk hr34
          have HC391 := Aside0.mk (show y388.length ≤ co27 from by omega)
          clear hr34 hC34 hroom34 hi034 hsz34; have KY34 := Aside0.mk hy34; clear hy34
          have KL34 := Aside0.mk (show ((l1.length : Int) : Int).toNat ≤ t381.length from by omega)
          replace q34 := eq_true q34
          go_wp2_with (first | (go_at_call 30; (with_reducible refine (steeplelaw27_same.calls kj3 _ _ y388 _ _ l1 t392 _ ?side1 ?side2 ?side3 ?side4 A33.out).mono ?_); (case side1 => repeat (first | exact (by repeat (first | (with_reducible exact HR391.out) | (with_reducible refine Kd.C_alloc ?_ _) | (with_reducible refine Kd.C_drewN ?_ _) | (with_reducible refine Kd.C_drew ?_) | exact HR391.out)) | (with_reducible refine Kd.C_alloc ?_ _) | (with_reducible refine Kd.C_drewN ?_ _) | (with_reducible refine Kd.C_drew ?_))); (case side2 => exact HC391.out); (case side3 => repeat (first | exact (Kd.C_below HR1.out HB.out) | (with_reducible refine Kd.C_alloc ?_ _) | (with_reducible refine Kd.C_drewN ?_ _) | (with_reducible refine Kd.C_drew ?_))); (case side4 => exact HC1.out); rintro e w' ⟨rfl, ⟨nd, rfl⟩⟩))
          go_meet
          case rel => exact ⟨_, (!t392), eqA, H', ⟨by have := HJ3.out; first | omega | exact Nat.le_refl _⟩, ⟨by (with_reducible repeat (first | apply Kd.S_alloc | apply Kd.S_drewN | apply Kd.S_drew)); exact HO383.out⟩, ⟨bkA BK376.out⟩, ⟨bkA BK377.out⟩, ⟨blA HB.out⟩⟩
         ·rw [if_neg c32] at H
          exact absurd H (by simp)
        ·rw [if_neg c31] at H
         exact absurd H (by simp)
       ·replace c30 := Bool.eq_false_iff.mpr c30; subst c30
        have H1 : (steeplelaw27_WitnessOne.j1 kj3 l1 t381 true a0_0 a0_1 a0_2 a0_3 a0_4 l0_5 a2_0 a2_1 a2_2) = some r := by rw [if_neg (show ¬ (false = true) by decide)] at H; exact H
        clear H; have H := H1; clear H1; have H' := Aside0.mk H; clear H
        go_wp2
        go_meet
        case rel => exact ⟨_, (true), eqA, H', ⟨by have := HJ3.out; first | omega | exact Nat.le_refl _⟩, ⟨by (with_reducible repeat (first | apply Kd.S_alloc | apply Kd.S_drewN | apply Kd.S_drew)); exact HO383.out⟩, ⟨bkA BK376.out⟩, ⟨bkA BK377.out⟩, ⟨blA HB.out⟩⟩
      ·rw [if_neg c29] at H
       have c29b0 : (t387 == 0) = false := beq_eq_false_iff_ne.mpr c29; have c29b1 : (t387 != 0) = true := bne_iff_ne.mpr c29
       (first | rw [c29b0] | (simp only [i64_w, i32_w]; rw [c29b0]) | skip)
       have H' := Aside0.mk H; clear H
       go_wp2
       go_meet
       case rel => exact ⟨_, (true), eqA, H', ⟨by have := HJ3.out; first | omega | exact Nat.le_refl _⟩, ⟨by (with_reducible repeat (first | apply Kd.S_alloc | apply Kd.S_drewN | apply Kd.S_drew)); exact HO383.out⟩, ⟨bkA BK376.out⟩, ⟨bkA BK377.out⟩, ⟨blA HB.out⟩⟩
     case rest =>
      clear HC22; (try clear c1); (try clear c2); (try clear p2); (try clear c3); (try clear q3); (try clear c6); (try clear c8); (try clear c10); (try clear c13); (try clear c16); (try clear c20); (try clear c20b0); (try clear c20b1); (try clear c23); (try clear c25); (try clear c27); (try clear c28); (try clear c29); (try clear c29b0); (try clear c29b1); (try clear c30); (try clear c31); (try clear c31b0); (try clear c31b1); (try clear c32); (try clear c32b0); (try clear c32b1); (try clear q34); (try clear hcz11); (try clear hcz14); (try clear hcz24); (try clear hcz26); (try clear hfz11); (try clear hfz14); (try clear hfz24); (try clear hfz26); (try clear p2); (try clear q34); obtain ⟨kq, x57_21, rfl, HA, HJ21, HO_7, BK376, BK377, HB⟩ := hcut
      cases kq with
      | zero => exact absurd HA.out (by simp [steeplelaw27_WitnessOne.j1])
      | succ kj21 =>
       have H := HA.out; clear HA
       simp only [steeplelaw27_WitnessOne.j1] at H
       by_cases c35 : x57_21 = true
       ·subst c35
        have H1 : (some false) = some r := by rw [if_pos rfl] at H; exact H
        clear H; have H := H1; clear H1; obtain rfl := Option.some.inj H
        go_wp2
        go_ret
        exact ⟨by first | rfl | (simp [errW_none, errW_some] <;> rfl) | (simp [*, errW_none, errW_some] <;> rfl), blA HB.out⟩
       ·replace c35 := Bool.eq_false_iff.mpr c35; subst c35
        have H1 : ((circuit_Used.f kj21 a0_0 a0_1 a0_2 a0_3 a0_4 l0_5).bind fun t393 => (if t393 = (l1.length : Int) then ((steeplelaw27_awake.f kj21).bind fun t394 => (some t394)) else (if (wrap64 (t393 - (l1.length : Int))) = 0 then (none) else (if 0 ≤ (wrap64 ((l1.length : Int) + (Int.tmod (wrap64 ((wrap64 ((Int.tmod a2_0 (wrap64 (t393 - (l1.length : Int)))) + t393)) - (l1.length : Int))) (wrap64 (t393 - (l1.length : Int)))))) then (if (wrap64 ((l1.length : Int) + (Int.tmod (wrap64 ((wrap64 ((Int.tmod a2_0 (wrap64 (t393 - (l1.length : Int)))) + t393)) - (l1.length : Int))) (wrap64 (t393 - (l1.length : Int)))))) < (t381.length : Int) then (if ((rd_L4 t381 (wrap64 ((l1.length : Int) + (Int.tmod (wrap64 ((wrap64 ((Int.tmod a2_0 (wrap64 (t393 - (l1.length : Int)))) + t393)) - (l1.length : Int))) (wrap64 (t393 - (l1.length : Int))))))).length : Int) = 0 then (none) else ((steepleref15_Two.f kj21 a0_0).bind fun t398 => (if t398 = 0 then (none) else (steeplelaw27_WitnessOne.l0 kj21 t381 (wrap64 ((l1.length : Int) + (Int.tmod (wrap64 ((wrap64 ((Int.tmod a2_0 (wrap64 (t393 - (l1.length : Int)))) + t393)) - (l1.length : Int))) (wrap64 (t393 - (l1.length : Int)))))) (Int.tmod (wrap64 ((Int.tmod a2_1 ((rd_L4 t381 (wrap64 ((l1.length : Int) + (Int.tmod (wrap64 ((wrap64 ((Int.tmod a2_0 (wrap64 (t393 - (l1.length : Int)))) + t393)) - (l1.length : Int))) (wrap64 (t393 - (l1.length : Int))))))).length : Int)) + ((rd_L4 t381 (wrap64 ((l1.length : Int) + (Int.tmod (wrap64 ((wrap64 ((Int.tmod a2_0 (wrap64 (t393 - (l1.length : Int)))) + t393)) - (l1.length : Int))) (wrap64 (t393 - (l1.length : Int))))))).length : Int))) ((rd_L4 t381 (wrap64 ((l1.length : Int) + (Int.tmod (wrap64 ((wrap64 ((Int.tmod a2_0 (wrap64 (t393 - (l1.length : Int)))) + t393)) - (l1.length : Int))) (wrap64 (t393 - (l1.length : Int))))))).length : Int)) (Int.tmod (wrap64 ((Int.tmod a2_2 t398) + t398)) t398) ([] : List (List Int)) 0 a0_0 a0_1 a0_2 a0_3 a0_4 l0_5)))) else (none)) else (none))))) = some r := by rw [if_neg (show ¬ (false = true) by decide)] at H; exact H
        clear H; have H := H1; clear H1; replace H := Option.bind_eq_some_iff.mp H; obtain ⟨t393, A360, H⟩ := H
        (try dsimp only at H)
        have A36 := Aside0.mk A360; clear A360
        by_cases c37 : t393 = (l1.length : Int)
        ·rw [if_pos c37] at H
         have c37b0 : (t393 == (l1.length : Int)) = true := beq_iff_eq.mpr c37; have c37b1 : (t393 != (l1.length : Int)) = false := bne_eq_false_iff_eq.mpr c37; clear c37; replace H := Option.bind_eq_some_iff.mp H; obtain ⟨t394, A380, H⟩ := H; replace H : (some t394) = some r := H; have A38 := Aside0.mk A380; clear A380; obtain rfl := Option.some.inj H; have hnb39 := NB376_377.out; have hnc39 := NB377_376.out
         have hcz40 := fun i => blk_cell BK376.out i
         have hfz40 := fun i => blk_frozen BK376.out i
         go_wp2_with (first | ((with_reducible refine gate_callee (f := 22) rfl ?_); refine goesL_ (some 59) rfl rfl Try.func22 (by kernel_rfl) rfl #[.agg #[.int .i64 a0_0, .int .i64 a0_1, .int .i64 a0_2, .int .i64 a0_3, .int .i64 a0_4, .slice A0_5 l0_5.length c0_5]] rfl gsA ?_; (with_reducible refine (circuit_Used.calls kj21 a0_0 a0_1 a0_2 a0_3 a0_4 _ _ l0_5 t393 _ ?side1 ?side2 A36.out).mono ?_); (case side1 => repeat (first | exact (Kd.C_below HR0_5.out HB.out) | (with_reducible refine Kd.C_alloc ?_ _) | (with_reducible refine Kd.C_drewN ?_ _) | (with_reducible refine Kd.C_drew ?_))); (case side2 => exact HC0_5.out); rintro e w41 ⟨rfl, hb⟩; refine ⟨_, rfl, ?_⟩; have n0_ := Aside0.mk (Kd.S_below (by (with_reducible repeat (first | apply Kd.S_alloc | apply Kd.S_drewN | apply Kd.S_drew)); exact HO_7.out) hb); have n1_ := Aside0.mk (blk_below (bkA BK376.out) hb); have n2_ := Aside0.mk (blk_below (bkA BK377.out) hb); have n3_ := Aside0.mk (below_step (blA HB.out) hb); clear HO_7; clear BK376; clear BK377; clear HB; have HO_7 := n0_; have BK376 := n1_; have BK377 := n2_; have HB := n3_; clear n0_ n1_ n2_ n3_; (try clear hb)) | ((with_reducible refine gate_callee (f := 27) rfl ?_); refine goesL_ (some 65) rfl rfl Try.func27 (by kernel_rfl) rfl #[] rfl gsA ?_; (with_reducible refine (steeplelaw27_awake.calls kj21  t394 _ A38.out).mono ?_); rintro e w42 ⟨rfl, hb⟩; refine ⟨_, rfl, ?_⟩; have n0_ := Aside0.mk (Kd.S_below (by (with_reducible repeat (first | apply Kd.S_alloc | apply Kd.S_drewN | apply Kd.S_drew)); exact HO_7.out) hb); have n1_ := Aside0.mk (blk_below (bkA BK376.out) hb); have n2_ := Aside0.mk (blk_below (bkA BK377.out) hb); have n3_ := Aside0.mk (below_step (blA HB.out) hb); clear HO_7; clear BK376; clear BK377; clear HB; have HO_7 := n0_; have BK376 := n1_; have BK377 := n2_; have HB := n3_; clear n0_ n1_ n2_ n3_; (try clear hb)))
         go_ret
         exact ⟨by first | rfl | (simp [errW_none, errW_some] <;> rfl) | (simp [*, errW_none, errW_some] <;> rfl), blA HB.out⟩
        ·rw [if_neg c37] at H
         have c37b0 : (t393 == (l1.length : Int)) = false := beq_eq_false_iff_ne.mpr c37; have c37b1 : (t393 != (l1.length : Int)) = true := bne_iff_ne.mpr c37
         by_cases c43 : (wrap64 (t393 - (l1.length : Int))) = 0
         ·rw [if_pos c43] at H
          exact absurd H (by simp)
         ·rw [if_neg c43] at H
          have c43b0 : ((wrap64 (t393 - (l1.length : Int))) == 0) = false := beq_eq_false_iff_ne.mpr c43; have c43b1 : ((wrap64 (t393 - (l1.length : Int))) != 0) = true := bne_iff_ne.mpr c43
          obtain ⟨ji44, hji44⟩ : ∃ j_ : Int, (wrap64 ((l1.length : Int) + (Int.tmod (wrap64 ((wrap64 ((Int.tmod a2_0 (wrap64 (t393 - (l1.length : Int)))) + t393)) - (l1.length : Int))) (wrap64 (t393 - (l1.length : Int)))))) = j_ := ⟨_, rfl⟩
          replace H : (if 0 ≤ (ji44) then (if (ji44) < (t381.length : Int) then (if ((rd_L4 t381 (ji44)).length : Int) = 0 then (none) else ((steepleref15_Two.f kj21 a0_0).bind fun t398 => (if t398 = 0 then (none) else (steeplelaw27_WitnessOne.l0 kj21 t381 ji44 (Int.tmod (wrap64 ((Int.tmod a2_1 ((rd_L4 t381 (ji44)).length : Int)) + ((rd_L4 t381 (ji44)).length : Int))) ((rd_L4 t381 (ji44)).length : Int)) (Int.tmod (wrap64 ((Int.tmod a2_2 t398) + t398)) t398) ([] : List (List Int)) 0 a0_0 a0_1 a0_2 a0_3 a0_4 l0_5)))) else (none)) else (none)) = some r := by first | (rw [hji44] at H; exact H) | (simp only [hji44] at H ⊢; exact H)
          (try rw [hji44] at A36)
          have hji44w : (IntKind.i64.wrap ((l1.length : Int) + (Int.tmod (wrap64 ((wrap64 ((Int.tmod a2_0 (wrap64 (t393 - (l1.length : Int)))) + t393)) - (l1.length : Int))) (wrap64 (t393 - (l1.length : Int)))))) = ji44 := (i64_w _).trans hji44
          by_cases c45 : 0 ≤ (ji44)
          ·rw [if_pos c45] at H
           have c45b0 : decide (0 ≤ (ji44)) = true := decide_eq_true c45; clear c45
           by_cases c46 : (ji44) < (t381.length : Int)
           ·rw [if_pos c46] at H
            have c46b0 : decide ((ji44) < (t381.length : Int)) = true := decide_eq_true c46; clear c46
            by_cases c47 : ((rd_L4 t381 (ji44)).length : Int) = 0
            ·rw [if_pos c47] at H
             exact absurd H (by simp)
            ·rw [if_neg c47] at H
             have c47b0 : (((rd_L4 t381 (ji44)).length : Int) == 0) = false := beq_eq_false_iff_ne.mpr c47; have c47b1 : (((rd_L4 t381 (ji44)).length : Int) != 0) = true := bne_iff_ne.mpr c47
             have c47b2 : ¬ ((rd_L4 t381 (ji44)) = []) := fun h_ => c47 (by rw [h_]; rfl)
             replace H := Option.bind_eq_some_iff.mp H; obtain ⟨t398, A480, H⟩ := H
             (try dsimp only at H)
             have A48 := Aside0.mk A480; clear A480
             by_cases c49 : t398 = 0
             ·rw [if_pos c49] at H
              exact absurd H (by simp)
             ·rw [if_neg c49] at H
              have c49b0 : (t398 == 0) = false := beq_eq_false_iff_ne.mpr c49; have c49b1 : (t398 != 0) = true := bne_iff_ne.mpr c49; have H' := Aside0.mk H; clear H; have hnb50 := NB376_377.out; have hnc50 := NB377_376.out
              have hcz51 := fun i => blk_cell BK376.out i
              have hfz51 := fun i => blk_frozen BK376.out i
              try go_wp2_with (first | ((with_reducible refine gate_callee (f := 22) rfl ?_); refine goesL_ (some 59) rfl rfl Try.func22 (by kernel_rfl) rfl #[.agg #[.int .i64 a0_0, .int .i64 a0_1, .int .i64 a0_2, .int .i64 a0_3, .int .i64 a0_4, .slice A0_5 l0_5.length c0_5]] rfl gsA ?_; (with_reducible refine (circuit_Used.calls kj21 a0_0 a0_1 a0_2 a0_3 a0_4 _ _ l0_5 t393 _ ?side1 ?side2 A36.out).mono ?_); (case side1 => repeat (first | exact (Kd.C_below HR0_5.out HB.out) | (with_reducible refine Kd.C_alloc ?_ _) | (with_reducible refine Kd.C_drewN ?_ _) | (with_reducible refine Kd.C_drew ?_))); (case side2 => exact HC0_5.out); rintro e w52 ⟨rfl, hb⟩; refine ⟨_, rfl, ?_⟩; have n0_ := Aside0.mk (Kd.S_below (by (with_reducible repeat (first | apply Kd.S_alloc | apply Kd.S_drewN | apply Kd.S_drew)); exact HO_7.out) hb); have n1_ := Aside0.mk (blk_below (bkA BK376.out) hb); have n2_ := Aside0.mk (blk_below (bkA BK377.out) hb); have n3_ := Aside0.mk (below_step (blA HB.out) hb); clear HO_7; clear BK376; clear BK377; clear HB; have HO_7 := n0_; have BK376 := n1_; have BK377 := n2_; have HB := n3_; clear n0_ n1_ n2_ n3_; (try clear hb); have hcz53 := fun i => blk_cell BK377.out i; have hfz53 := fun i => blk_frozen BK377.out i; ))
              have n0_ := Aside0.mk (Kd.S_drew HO_7.out); have n1_ := Aside0.mk (blk_drew BK376.out); have n2_ := Aside0.mk (blk_drew BK377.out); have n3_ := Aside0.mk (below_drew1 HB.out); clear HO_7; clear BK376; clear BK377; clear HB; have HO_7 := n0_; have BK376 := n1_; have BK377 := n2_; have HB := n3_; clear n0_ n1_ n2_ n3_
              have p395 : 0 ≤ ((ji44) : Int) := of_decide_eq_true (by first | (with_reducible assumption) | assumption)
              have q395 : (ji44) < (t381.length : Int) := of_decide_eq_true (by first | (with_reducible assumption) | assumption)
              obtain ⟨ad395, A395_0, c395_0, e395, hx395_0, hl395_0, hi395_0⟩ := at_L4 (Kd.S_reads' HO_7.out).2.2 (ji44) p395 q395
              cases e395
              obtain ⟨ce395, hce395, hMe395, hcc395⟩ := Kd.S_get HO_7.out [] (ji44) p395 (by first | exact q395 | exact of_decide_eq_true (by first | (with_reducible assumption) | assumption) | (have e_ := (Kd.S_reads' HO_7.out).1; omega))
              obtain ⟨ve395_0, rfl, ge395_0⟩ := hMe395; have hv395_0 := hcc395 0 _ rfl
              rw [Nat.add_zero, show ((Kd.slice 43 (Kd.int .u64))).sz = 1 from rfl, Nat.mul_one] at hv395_0
              replace hv395_0 := Option.some.inj (hv395_0.symm.trans hx395_0)
              rw [hv395_0] at ge395_0
              have HL395_0 := Aside0.mk (show Kd.R (Kd.int .u64) 43 _ _ _ _ (rd_L4 t381 (ji44)) from ge395_0)
              clear hv395_0 ge395_0; have HX395_0 := Aside0.mk hx395_0; clear hcc395 hce395; have HR395_0 := Aside0.mk hi395_0; have HC395_0 := Aside0.mk hl395_0; clear hi395_0 hl395_0; replace p395 := eq_true p395; replace q395 := eq_true q395
              have p396 : 0 ≤ ((ji44) : Int) := of_decide_eq_true (by first | (with_reducible assumption) | assumption)
              have q396 : (ji44) < (t381.length : Int) := of_decide_eq_true (by first | (with_reducible assumption) | assumption)
              obtain ⟨ad396, A396_0, c396_0, e396, hx396_0, hl396_0, hi396_0⟩ := at_L4 (Kd.S_reads' HO_7.out).2.2 (ji44) p396 q396
              obtain rfl : ad395 = ad396 := (by injection e396)
              obtain ⟨ce396, hce396, hMe396, hcc396⟩ := Kd.S_get HO_7.out [] (ji44) p396 (by first | exact q396 | exact of_decide_eq_true (by first | (with_reducible assumption) | assumption) | (have e_ := (Kd.S_reads' HO_7.out).1; omega))
              obtain ⟨ve396_0, rfl, ge396_0⟩ := hMe396; have hv396_0 := hcc396 0 _ rfl
              rw [Nat.add_zero, show ((Kd.slice 43 (Kd.int .u64))).sz = 1 from rfl, Nat.mul_one] at hv396_0
              replace hv396_0 := Option.some.inj (hv396_0.symm.trans hx396_0)
              rw [hv396_0] at ge396_0
              have HL396_0 := Aside0.mk (show Kd.R (Kd.int .u64) 43 _ _ _ _ (rd_L4 t381 (ji44)) from ge396_0)
              clear hv396_0 ge396_0; have HX396_0 := Aside0.mk hx396_0; clear hcc396 hce396; have HR396_0 := Aside0.mk hi396_0; have HC396_0 := Aside0.mk hl396_0; clear hi396_0 hl396_0; replace p396 := eq_true p396; replace q396 := eq_true q396; have ea_ := Option.some.inj (hx395_0.symm.trans hx396_0)
              injection ea_ with ea_ en_ ec_
              subst ea_; subst ec_; clear en_
              have p397 : 0 ≤ ((ji44) : Int) := of_decide_eq_true (by first | (with_reducible assumption) | assumption)
              have q397 : (ji44) < (t381.length : Int) := of_decide_eq_true (by first | (with_reducible assumption) | assumption)
              obtain ⟨ad397, A397_0, c397_0, e397, hx397_0, hl397_0, hi397_0⟩ := at_L4 (Kd.S_reads' HO_7.out).2.2 (ji44) p397 q397
              obtain rfl : ad395 = ad397 := (by injection e397)
              obtain ⟨ce397, hce397, hMe397, hcc397⟩ := Kd.S_get HO_7.out [] (ji44) p397 (by first | exact q397 | exact of_decide_eq_true (by first | (with_reducible assumption) | assumption) | (have e_ := (Kd.S_reads' HO_7.out).1; omega))
              obtain ⟨ve397_0, rfl, ge397_0⟩ := hMe397; have hv397_0 := hcc397 0 _ rfl
              rw [Nat.add_zero, show ((Kd.slice 43 (Kd.int .u64))).sz = 1 from rfl, Nat.mul_one] at hv397_0
              replace hv397_0 := Option.some.inj (hv397_0.symm.trans hx397_0)
              rw [hv397_0] at ge397_0
              have HL397_0 := Aside0.mk (show Kd.R (Kd.int .u64) 43 _ _ _ _ (rd_L4 t381 (ji44)) from ge397_0)
              clear hv397_0 ge397_0; have HX397_0 := Aside0.mk hx397_0; clear hcc397 hce397; have HR397_0 := Aside0.mk hi397_0; have HC397_0 := Aside0.mk hl397_0; clear hi397_0 hl397_0; replace p397 := eq_true p397; replace q397 := eq_true q397; have ea_ := Option.some.inj (hx395_0.symm.trans hx397_0)
              injection ea_ with ea_ en_ ec_
              subst ea_; subst ec_; clear en_
              refine start_ (n := 21) (S := fun w' => w'.cell? ⟨gb377, 0, none⟩ = some (.int .i64 a2_0) ∧ w'.cell? ⟨gb377, 1, none⟩ = some (.int .i64 a2_1) ∧ w'.cell? ⟨gb377, 2, none⟩ = some (.int .i64 a2_2) ∧ w'.cell? (ad395.add ((ji44)).toNat) = some (.slice A395_0 (rd_L4 t381 (ji44)).length c395_0) ∧ w'.cell? (ad395.add ((ji44)).toNat) = some (.slice A395_0 (rd_L4 t381 (ji44)).length c395_0) ∧ w'.cell? (ad395.add ((ji44)).toNat) = some (.slice A395_0 (rd_L4 t381 (ji44)).length c395_0)) (ds := []) #[false, false, false, false, false, false, false, false, false, false, false, false, false, false, false, false, false, false, false, false, false] (by kernel_rfl) rfl rfl ⟨(blk_cell BK377.out 0).trans rfl, (blk_cell BK377.out 1).trans rfl, (blk_cell BK377.out 2).trans rfl, hx395_0, hx396_0, hx397_0⟩ (fun hHeld => ?_); refine with_tabW steeplelaw27_WitnessOne.tab13 steeplelaw27_WitnessOne.bits13 (fun HT_ HW_ => ?_)
              generalize w52.drew = w54 at HO_7 BK376 BK377 HB HL395_0 HL396_0 HL397_0 HR395_0 HR396_0 HR397_0 HX395_0 HX396_0 HX397_0 hx395_0 hx396_0 hx397_0 hHeld ⊢
              refine pureA 0 (some 82) HT_.out ?_
              refine pureA 2 (some 84) HT_.out ?_
              refine pureA 3 (some 85) HT_.out ?_
              refine pureA 4 (some 86) HT_.out ?_
              refine pureA 8 (some 90) HT_.out ?_
              refine pureA 9 (some 91) HT_.out ?_
              refine pureA 10 (some 92) HT_.out ?_
              refine pureA 14 (some 96) HT_.out ?_
              refine pureA 15 (some 97) HT_.out ?_
              refine pureA 16 (some 98) HT_.out ?_
              refine takeA 1 (some 83) rfl HT_.out HW_.out hHeld (Or.inl ⟨by rfl, by rintro w' ⟨s0, s1, s2, s3, s4, s5⟩; go_simp; with_reducible rfl⟩) ?_
              refine takeA 5 (some 87) rfl HT_.out HW_.out hHeld (Or.inl ⟨by rfl, by rintro w' ⟨s0, s1, s2, s3, s4, s5⟩; go_simp; with_reducible rfl⟩) ?_
              refine pureA 6 (some 88) HT_.out ?_
              refine pureA 7 (some 89) HT_.out ?_
              refine takeA 11 (some 93) rfl HT_.out HW_.out hHeld (Or.inl ⟨by rfl, by rintro w' ⟨s0, s1, s2, s3, s4, s5⟩; go_simp; with_reducible rfl⟩) ?_
              refine pureA 12 (some 94) HT_.out ?_
              refine pureA 13 (some 95) HT_.out ?_
              refine takeA 17 (some 99) rfl HT_.out HW_.out hHeld (Or.inl ⟨by rfl, by rintro w' ⟨s0, s1, s2, s3, s4, s5⟩; go_simp; with_reducible rfl⟩) ?_
              refine pureA 18 (some 100) HT_.out ?_
              refine pureA 19 (some 101) HT_.out ?_
              refine pureA 20 (some 14) HT_.out ?_
              refine done_ (done_of HT_.out (by kernel_rfl)) ?_
              have hcz55 := fun i => blk_cell BK376.out i
              have hfz55 := fun i => blk_frozen BK376.out i
              try go_wp2_with (first | ((with_reducible refine gate_callee (f := 32) rfl ?_); refine goesL_ (some 104) rfl rfl Try.func32 (by kernel_rfl) rfl #[.int .i64 a0_0] rfl gsA ?_; (with_reducible refine (steepleref15_Two.calls kj21 a0_0 t398 _ A48.out).mono ?_); rintro e w' ⟨rfl, ⟨nd, rfl⟩⟩; refine ⟨_, rfl, ?_⟩; have hcz56 := fun i => blk_cell BK377.out i; have hfz56 := fun i => blk_frozen BK377.out i; ))
              go_loopg [17, 18] kj21 (fun kq v17 v18 w' => ∃ (x17_3 : List (List Int)) (x18_3 : Int), v18 = .int .i64 x18_3 ∧ Aside0 (steeplelaw27_WitnessOne.l0 kq t381 ji44 (Int.tmod (wrap64 ((Int.tmod a2_1 ((rd_L4 t381 (ji44)).length : Int)) + ((rd_L4 t381 (ji44)).length : Int))) ((rd_L4 t381 (ji44)).length : Int)) (Int.tmod (wrap64 ((Int.tmod a2_2 t398) + t398)) t398) x17_3 x18_3 a0_0 a0_1 a0_2 a0_3 a0_4 l0_5 = some r) ∧ Aside0 (kq ≤ kj21) ∧ Aside0 (Kd.S (Kd.slice 43 (Kd.int .u64)) 68 w' w.heap.size (fun k_ => some k_ ≠ (v17 : Value).ownBlock) (.slice (some ad395) t381.length co27) t381) ∧ Aside0 (Kd.S (Kd.slice 43 (Kd.int .u64)) 68 w' w.heap.size (fun k_ => some k_ ≠ ((.slice (some ad395) t381.length co27) : Value).ownBlock) v17 x17_3) ∧ Aside0 (w'.heap[gb376]? = some (.cells #[.int .i64 a0_0, .int .i64 a0_1, .int .i64 a0_2, .int .i64 a0_3, .int .i64 a0_4, (.slice A0_5 l0_5.length c0_5)] 24 (0, 0))) ∧ Aside0 (w'.heap[gb377]? = some (.cells #[.int .i64 a2_0, .int .i64 a2_1, .int .i64 a2_2] 65 (0, 0))) ∧ Aside0 (Below w.heap.size w w'))
              case atStart => exact ⟨(([] : List (List Int))), (0), eqA, H', ⟨Nat.le_refl _⟩, ⟨by (with_reducible repeat (first | apply Kd.S_alloc | apply Kd.S_drewN | apply Kd.S_drew)); exact Kd.S_mono HO_7.out (fun _ hk => (by simp [Value.ownBlock]))⟩, ⟨by first | exact Kd.S_nil _ _ _ _ _ | exact Kd.N_nil _ _ _ _ _ | exact Kd.V_nil _ _ _ _ _ | exact Kd.Q_nil _ _ _ _ _ | exact Kd.R_nil _ _ _ _ _⟩, ⟨bkA BK376.out⟩, ⟨bkA BK377.out⟩, ⟨blA HB.out⟩⟩
              case round =>
               clear H'; (try clear c1); (try clear c2); (try clear p2); (try clear c3); (try clear p3); (try clear q3); (try clear hx3); (try clear c4); (try clear c5); (try clear c6); (try clear p6); (try clear c8); (try clear c10); (try clear c13); (try clear c16); (try clear c20); (try clear c20b0); (try clear c20b1); (try clear c22); (try clear c23); (try clear c25); (try clear c27); (try clear c28); (try clear c29); (try clear c29b0); (try clear c29b1); (try clear c30); (try clear c31); (try clear c31b0); (try clear c31b1); (try clear c32); (try clear c32b0); (try clear c32b1); (try clear q34); (try clear c35); (try clear c37); (try clear c37b0); (try clear c37b1); (try clear c39); (try clear p39); (try clear q39); (try clear hx39); (try clear c43); (try clear c43b0); (try clear c43b1); (try clear c45); (try clear c45b0); (try clear c46); (try clear c46b0); (try clear c47); (try clear c47b0); (try clear c47b1); (try clear c47b2); (try clear c49); (try clear c49b0); (try clear c49b1); (try clear c50); (try clear hcz11); (try clear hcz14); (try clear hcz24); (try clear hcz26); (try clear hcz40); (try clear hcz51); (try clear hcz53); (try clear hcz55); (try clear hcz56); (try clear hfz11); (try clear hfz14); (try clear hfz24); (try clear hfz26); (try clear hfz40); (try clear hfz51); (try clear hfz53); (try clear hfz55); (try clear hfz56); (try clear hx395_0); (try clear hx396_0); (try clear hx397_0); (try clear p2); (try clear p395); (try clear p396); (try clear p397); (try clear q3); (try clear q34); (try clear q395); (try clear q396); (try clear q397); obtain ⟨x17_3, x18_3, rfl, HA, HK3, HO_7, HO_17, BK376, BK377, HB⟩ := hrel
               cases gk with
               | zero => exact absurd HA.out (by simp [steeplelaw27_WitnessOne.l0])
               | succ k3 =>
                have H := HA.out; clear HA
                simp only [steeplelaw27_WitnessOne.l0] at H
                by_cases c57 : x18_3 < (t381.length : Int)
                ·rw [if_pos c57] at H
                 have c57b0 : decide (x18_3 < (t381.length : Int)) = true := decide_eq_true c57; clear c57
                 obtain ⟨y399, hy399⟩ : ∃ y_ : List Int, y_ = (([] : List Int)) := ⟨_, rfl⟩
                 replace H : (if 0 ≤ x18_3 then (if y399.length + (rd_L4 t381 x18_3).length < 17592186044416 then (if x17_3.length < 5864062014805 then (steeplelaw27_WitnessOne.l0 k3 t381 ji44 (Int.tmod (wrap64 ((Int.tmod a2_1 ((rd_L4 t381 (ji44)).length : Int)) + ((rd_L4 t381 (ji44)).length : Int))) ((rd_L4 t381 (ji44)).length : Int)) (Int.tmod (wrap64 ((Int.tmod a2_2 t398) + t398)) t398) (x17_3 ++ [(y399 ++ (rd_L4 t381 x18_3))]) (wrap64 (x18_3 + 1)) a0_0 a0_1 a0_2 a0_3 a0_4 l0_5) else (none)) else (none)) else (none)) = some r := by first | (rw [hy399]; with_reducible exact H) | (have H2_ := (Option.bind_some _ _).symm.trans H; rw [hy399]; with_reducible exact H2_) | (have H2_ := (Option.bind_some _ _).symm.trans H; with_reducible exact H2_) | with_reducible exact H | (rw [hy399]; exact H) | exact H
                 have Ny399 := Aside0.mk hy399; clear hy399
                 by_cases c58 : 0 ≤ x18_3
                 ·rw [if_pos c58] at H
                  have c58b0 : decide (0 ≤ x18_3) = true := decide_eq_true c58; clear c58
                  by_cases c59 : y399.length + (rd_L4 t381 x18_3).length < 17592186044416
                  ·rw [if_pos c59] at H
                   have LMc59 := Aside0.mk c59; clear c59
                   obtain ⟨y403, hy403⟩ : ∃ y_ : List Int, y_ = (y399 ++ (rd_L4 t381 x18_3)) := ⟨_, rfl⟩
                   replace H : (if x17_3.length < 5864062014805 then (steeplelaw27_WitnessOne.l0 k3 t381 ji44 (Int.tmod (wrap64 ((Int.tmod a2_1 ((rd_L4 t381 (ji44)).length : Int)) + ((rd_L4 t381 (ji44)).length : Int))) ((rd_L4 t381 (ji44)).length : Int)) (Int.tmod (wrap64 ((Int.tmod a2_2 t398) + t398)) t398) (x17_3 ++ [y403]) (wrap64 (x18_3 + 1)) a0_0 a0_1 a0_2 a0_3 a0_4 l0_5) else (none)) = some r := by first | (rw [hy403]; with_reducible exact H) | (have H2_ := (Option.bind_some _ _).symm.trans H; rw [hy403]; with_reducible exact H2_) | (have H2_ := (Option.bind_some _ _).symm.trans H; with_reducible exact H2_) | with_reducible exact H | (rw [hy403]; exact H) | exact H
                   have Ny403 := Aside0.mk hy403; clear hy403
                   by_cases c60 : x17_3.length < 5864062014805
                   ·rw [if_pos c60] at H
                    have LMc60 := Aside0.mk c60; clear c60
                    obtain ⟨y406, hy406⟩ : ∃ y_ : List (List Int), y_ = (x17_3 ++ [y403]) := ⟨_, rfl⟩
                    replace H : (steeplelaw27_WitnessOne.l0 k3 t381 ji44 (Int.tmod (wrap64 ((Int.tmod a2_1 ((rd_L4 t381 (ji44)).length : Int)) + ((rd_L4 t381 (ji44)).length : Int))) ((rd_L4 t381 (ji44)).length : Int)) (Int.tmod (wrap64 ((Int.tmod a2_2 t398) + t398)) t398) y406 (wrap64 (x18_3 + 1)) a0_0 a0_1 a0_2 a0_3 a0_4 l0_5) = some r := by first | (rw [hy406]; with_reducible exact H) | (have H2_ := (Option.bind_some _ _).symm.trans H; rw [hy406]; with_reducible exact H2_) | (have H2_ := (Option.bind_some _ _).symm.trans H; with_reducible exact H2_) | with_reducible exact H | (rw [hy406]; exact H) | exact H
                    have Ny406 := Aside0.mk hy406; clear hy406; have H' := Aside0.mk H; clear H
                    go_wp2_with (first | ((with_reducible refine gate_dst (N := 120) rfl ?_); (try (refine gate_guard (by rfl) ?_; dsimp only)); refine Kd.R_lit (Kd.int .u64) _ 43 ?hg (N := 120) ?hd (xs := ([] : List Int)) (inner := []) (ok := fun _ => True) (okp := fun _ => True) ?hr ?hp (fun _ hk => hk) trivial (Below.refl _ _) (Nat.le_refl _) (by simp) ?_; (case hd => rfl); (case hg => rfl); (case hr => first | (go_simp; done) | (go_simp; rfl)); (case hp => exact (Reps.none _ _)); intro v400 w61 ho62 hb hg_ hnew_; clear hg_ hnew_; (first | rw [← Ny399.out] at ho62 | (simp only [Int.reduceToNat] at ho62; rw [← Ny399.out] at ho62)); have n0_ := Aside0.mk (Kd.S_elder' (by (with_reducible repeat (first | apply Kd.S_alloc | apply Kd.S_drewN | apply Kd.S_drew)); exact HO_7.out) (Kd.R_base ho62) hb); have n1_ := Aside0.mk (Kd.S_elder' (by (with_reducible repeat (first | apply Kd.S_alloc | apply Kd.S_drewN | apply Kd.S_drew)); exact HO_17.out) (Kd.R_base ho62) hb); have n2_ := Aside0.mk (Kd.R_lower ho62 (below_size (blA HB.out))); have n3_ := Aside0.mk (blk_below (bkA BK376.out) hb); have n4_ := Aside0.mk (blk_below (bkA BK377.out) hb); have n5_ := Aside0.mk (below_step (blA HB.out) hb); clear HO_7; clear HO_17; clear BK376; clear BK377; clear HB; have HO_7 := n0_; have HO_17 := n1_; have HO401 := n2_; have BK376 := n3_; have BK377 := n4_; have HB := n5_; clear n0_ n1_ n2_ n3_ n4_ n5_; clear hb ho62; have p402 : 0 ≤ (x18_3 : Int) := of_decide_eq_true (by first | (with_reducible assumption) | assumption); have q402 : x18_3 < (t381.length : Int) := of_decide_eq_true (by first | (with_reducible assumption) | assumption); obtain ⟨ad402, A402_0, c402_0, e402, hx402_0, hl402_0, hi402_0⟩ := at_L4 (Kd.S_reads' HO_7.out).2.2 x18_3 p402 q402; obtain rfl : ad395 = ad402 := (by injection e402); obtain ⟨ce402, hce402, hMe402, hcc402⟩ := Kd.S_get HO_7.out [] x18_3 p402 (by first | exact q402 | exact of_decide_eq_true (by first | (with_reducible assumption) | assumption) | (have e_ := (Kd.S_reads' HO_7.out).1; omega)); obtain ⟨ve402_0, rfl, ge402_0⟩ := hMe402; have hv402_0 := hcc402 0 _ rfl; rw [Nat.add_zero, show ((Kd.slice 43 (Kd.int .u64))).sz = 1 from rfl, Nat.mul_one] at hv402_0; replace hv402_0 := Option.some.inj (hv402_0.symm.trans hx402_0); rw [hv402_0] at ge402_0; have HL402_0 := Aside0.mk (show Kd.R (Kd.int .u64) 43 _ _ _ _ (rd_L4 t381 x18_3) from ge402_0); clear hv402_0 ge402_0; have HX402_0 := Aside0.mk hx402_0; clear hcc402 hce402; have HR402_0 := Aside0.mk hi402_0; have HC402_0 := Aside0.mk hl402_0; clear hi402_0 hl402_0; replace p402 := eq_true p402; replace q402 := eq_true q402) | ((with_reducible refine gate_builtin (b := .append) (xs := #[.tmp 120, .tmp 124]) rfl ?_); (try (refine gate_guard (by rfl) ?_; dsimp only)); at_builtin; refine Kd.R_append_rows (Kd.int .u64) (w0 := w) w.heap.size rfl (.tmp 120) (.tmp 124) 68 43 (.int .u64 0) 8 rfl Try.underlying68 info43 rfl (by decide) (by omega) v400 y399 (rd_L4 t381 x18_3) _ _ _ (fun _ => True) (fun _ => False) rfl rfl ?aO ?aR (fun _ _ h => h) (fun _ h => h.elim) ?aF ?aB ?aS ?aL ?_; (case aR => repeat (first | exact (by repeat (first | (with_reducible exact HR402_0.out) | (with_reducible refine Kd.C_alloc ?_ _) | (with_reducible refine Kd.C_drewN ?_ _) | (with_reducible refine Kd.C_drew ?_) | exact HR402_0.out)) | (with_reducible refine Kd.C_alloc ?_ _) | (with_reducible refine Kd.C_drewN ?_ _) | (with_reducible refine Kd.C_drew ?_))); (case aB => exact (blA HB.out)); (case aF => exact (fun _ _ => trivial)); (case aO => exact (raA HO401.out)); (case aS => exact (below_size (blA HB.out))); (case aL => have := LMc59.out; omega); intro v404 w63 ho hb hg hat; rw [← Ny403.out] at ho; have n0_ := Aside0.mk (Kd.S_after (ok := (fun k_ => some k_ ≠ (u17 : Value).ownBlock)) (by (with_reducible repeat (first | apply Kd.S_alloc | apply Kd.S_drewN | apply Kd.S_drew)); exact HO_7.out) hg hat); have n1_ := Aside0.mk (Kd.S_after (ok := (fun k_ => some k_ ≠ (.slice (some ad395) t381.length co27 : Value).ownBlock)) (by (with_reducible repeat (first | apply Kd.S_alloc | apply Kd.S_drewN | apply Kd.S_drew)); exact HO_17.out) hg hat); have n2_ := Aside0.mk (blk_grown (bkA BK376.out) hg (Kd.R_ne HO401.out BK376.out (by decide))); have n3_ := Aside0.mk (blk_grown (bkA BK377.out) hg (Kd.R_ne HO401.out BK377.out (by decide))); have n4_ := Aside0.mk (Kd.R_after (ok := (fun k_ => some k_ ≠ (.slice (some ad395) t381.length co27 : Value).ownBlock ∧ some k_ ≠ (u17 : Value).ownBlock)) (by (with_reducible repeat (first | apply Kd.R_alloc | apply Kd.R_drewN | apply Kd.R_drew)); exact Kd.R_mono HL402_0.out (fun _ hk => ⟨⟨hk.2, hk.1.1⟩, hk.1.2⟩)) hg hat); have n5_ := Aside0.mk (hb); have n6_ := Aside0.mk (ho); clear HO_7; clear HO_17; clear BK376; clear BK377; clear HL402_0; clear HB; clear HO401; have HO_7 := n0_; have HO_17 := n1_; have BK376 := n2_; have BK377 := n3_; have HL402_0 := n4_; have HB := n5_; have HO405 := n6_; clear n0_ n1_ n2_ n3_ n4_ n5_ n6_; clear ho hb hg hat; obtain ⟨Ao65, co65, eo65⟩ := Kd.R_slice HO405.out; subst eo65) | ((with_reducible refine gate_builtin (b := .append) (xs := #[.tmp 119, .tmp 126]) rfl ?_); (try (refine gate_guard (by rfl) ?_; dsimp only)); at_builtin; refine Kd.S_append (Kd.slice 43 (Kd.int .u64)) (w0 := w) w.heap.size rfl (.tmp 119) (.tmp 126) 56 68 (.slice none 0 0) 24 rfl Try.underlying56 info68 rfl (by decide) (by omega) u17 x17_3 y403 [.slice Ao65 y403.length co65] (fun k_ => some k_ ≠ (.slice (some ad395) t381.length co27 : Value).ownBlock) (fun k_ => some k_ = (.slice Ao65 y403.length co65 : Value).ownBlock) rfl rfl ?aP (fun k_ hk_ => ((Kd.R_mono (ok' := fun k_ => ((fun k_ => some k_ ≠ (.slice (some ad395) t381.length co27 : Value).ownBlock)) k_ ∧ some k_ ≠ (u17 : Value).ownBlock) (Kd.R_apart' (Kd.R_apart' (HO405.out) (Kd.S_typed HO_7.out) (by decide)) (Kd.S_typed HO_17.out) (by decide)) (fun k_ hk => ⟨hk.1.2, hk.2⟩))).1 k_ hk_.symm) ?aF ?aO ?aB ?aS ?aL ?_; (case aP => exact Kd.M_row (Kd.R_mono (Kd.R_tight rfl (Kd.R_mono (ok' := fun k_ => ((fun k_ => some k_ ≠ (.slice (some ad395) t381.length co27 : Value).ownBlock)) k_ ∧ some k_ ≠ (u17 : Value).ownBlock) (Kd.R_apart' (Kd.R_apart' (HO405.out) (Kd.S_typed HO_7.out) (by decide)) (Kd.S_typed HO_17.out) (by decide)) (fun k_ hk => ⟨hk.1.2, hk.2⟩))) (fun _ h_ => h_))); (case aB => exact (blA HB.out)); (case aF => exact (fun k_ hk => Kd.fresh' (Kd.S_lt (by (with_reducible repeat (first | apply Kd.S_alloc | apply Kd.S_drewN | apply Kd.S_drew)); exact HO_7.out)) k_ hk)); (case aO => exact (by (with_reducible repeat (first | apply Kd.S_alloc | apply Kd.S_drewN | apply Kd.S_drew)); exact Kd.S_mono HO_17.out (fun k_ hk => ⟨hk.1, fun e_ => hk.2 e_⟩))); (case aS => exact (below_size (blA HB.out))); (case aL => have := LMc60.out; omega); intro v407 w64 ho hb hg hat; rw [← Ny406.out] at ho; have n0_ := Aside0.mk (Kd.S_after (ok := (fun k_ => some k_ ≠ (.slice Ao65 y403.length co65 : Value).ownBlock)) (by (with_reducible repeat (first | apply Kd.S_alloc | apply Kd.S_drewN | apply Kd.S_drew)); exact Kd.S_mono HO_7.out (fun _ hk => ⟨hk.2, hk.1⟩)) hg hat); have n1_ := Aside0.mk (blk_grown (bkA BK376.out) hg (Kd.S_ne HO_17.out BK376.out (by decide))); have n2_ := Aside0.mk (blk_grown (bkA BK377.out) hg (Kd.S_ne HO_17.out BK377.out (by decide))); have n3_ := Aside0.mk (Kd.R_after (ok := (fun k_ => some k_ ≠ (.slice (some ad395) t381.length co27 : Value).ownBlock ∧ some k_ ≠ (.slice Ao65 y403.length co65 : Value).ownBlock)) (by (with_reducible repeat (first | apply Kd.R_alloc | apply Kd.R_drewN | apply Kd.R_drew)); exact Kd.R_mono HL402_0.out (fun _ hk => ⟨⟨hk.1.1, hk.2⟩, hk.1.2⟩)) hg hat); have n4_ := Aside0.mk (hb); have n5_ := Aside0.mk (ho); clear HO_7; clear BK376; clear BK377; clear HL402_0; clear HB; clear HO_17; clear HO405; have HO_7 := n0_; have BK376 := n1_; have BK377 := n2_; have HL402_0 := n3_; have HB := n4_; have HO408 := n5_; clear n0_ n1_ n2_ n3_ n4_ n5_; clear ho hb hg hat))
                    go_roundg k3
                    case measure => have := HJ3.out; have := HJ21.out; have := HK3.out; omega
                    case rel => exact ⟨(y406), (wrap64 (x18_3 + 1)), eqA, H', ⟨by have := HJ3.out; have := HJ21.out; have := HK3.out; omega⟩, ⟨by (with_reducible repeat (first | apply Kd.S_alloc | apply Kd.S_drewN | apply Kd.S_drew)); exact Kd.S_mono HO_7.out (fun _ hk => hk.2)⟩, ⟨by (with_reducible repeat (first | apply Kd.S_alloc | apply Kd.S_drewN | apply Kd.S_drew)); exact HO408.out⟩, ⟨bkA BK376.out⟩, ⟨bkA BK377.out⟩, ⟨blA HB.out⟩⟩
                   ·rw [if_neg c60] at H
                    exact absurd H (by simp)
                  ·rw [if_neg c59] at H
                   exact absurd H (by simp)
                 ·rw [if_neg c58] at H
                  exact absurd H (by simp)
                ·rw [if_neg c57] at H
                 have c57b0 : decide (x18_3 < (t381.length : Int)) = false := decide_eq_false c57; clear c57
                 by_cases c66 : 0 ≤ ji44
                 ·rw [if_pos c66] at H
                  have c66b0 : decide (0 ≤ ji44) = true := decide_eq_true c66; clear c66
                  by_cases c67 : ji44 < (x17_3.length : Int)
                  ·rw [if_pos c67] at H
                   have c67b0 : decide (ji44 < (x17_3.length : Int)) = true := decide_eq_true c67; clear c67
                   obtain ⟨ji68, hji68⟩ : ∃ j_ : Int, (Int.tmod (wrap64 ((Int.tmod a2_1 ((rd_L4 t381 (ji44)).length : Int)) + ((rd_L4 t381 (ji44)).length : Int))) ((rd_L4 t381 (ji44)).length : Int)) = j_ := ⟨_, rfl⟩
                   replace H : (if 0 ≤ (ji68) then (if (ji68) < ((rd_L4 x17_3 ji44).length : Int) then (if 0 ≤ (IntKind.u64.wrap ((Int.tmod (wrap64 ((Int.tmod a2_2 t398) + t398)) t398))) then ((witness_Holds.f k3 a0_0 a0_1 a0_2 a0_3 a0_4 l0_5 (x17_3.set (ji44 : Int).toNat ((rd_L4 x17_3 ji44).set ((ji68) : Int).toNat (Go.bits .xor .u64 (rd (rd_L4 x17_3 ji44) (ji68)) (shl .u64 1 (IntKind.u64.wrap ((Int.tmod (wrap64 ((Int.tmod a2_2 t398) + t398)) t398)))))))).bind fun bt415 => ((steeplelaw27_awake.f k3).bind fun t417 => (if t417 = true then (if bt415.2 = 0 then (some (!bt415.1)) else (some false)) else (some false)))) else (none)) else (none)) else (none)) = some r := by first | (rw [hji68] at H; exact H) | (simp only [hji68] at H ⊢; exact H)
                   by_cases c69 : 0 ≤ (ji68)
                   ·rw [if_pos c69] at H
                    have c69b0 : decide (0 ≤ (ji68)) = true := decide_eq_true c69; clear c69
                    by_cases c70 : (ji68) < ((rd_L4 x17_3 ji44).length : Int)
                    ·rw [if_pos c70] at H
                     have c70b0 : decide ((ji68) < ((rd_L4 x17_3 ji44).length : Int)) = true := decide_eq_true c70; clear c70
                     obtain ⟨ji71, hji71⟩ : ∃ j_ : Int, (IntKind.u64.wrap ((Int.tmod (wrap64 ((Int.tmod a2_2 t398) + t398)) t398))) = j_ := ⟨_, rfl⟩
                     replace H : (if 0 ≤ (ji71) then ((witness_Holds.f k3 a0_0 a0_1 a0_2 a0_3 a0_4 l0_5 (x17_3.set (ji44 : Int).toNat ((rd_L4 x17_3 ji44).set ((ji68) : Int).toNat (Go.bits .xor .u64 (rd (rd_L4 x17_3 ji44) (ji68)) (shl .u64 1 (ji71)))))).bind fun bt415 => ((steeplelaw27_awake.f k3).bind fun t417 => (if t417 = true then (if bt415.2 = 0 then (some (!bt415.1)) else (some false)) else (some false)))) else (none)) = some r := by first | (rw [hji71] at H; exact H) | (simp only [hji71] at H ⊢; exact H)
                     by_cases c72 : 0 ≤ (ji71)
                     ·rw [if_pos c72] at H
                      have c72b0 := eq_true c72; have c72b1 : decide (0 ≤ (ji71)) = true := decide_eq_true c72; clear c72
                      obtain ⟨ji73, hji73⟩ : ∃ j_ : Int, (shl .u64 1 (ji71)) = j_ := ⟨_, rfl⟩
                      replace H : ((witness_Holds.f k3 a0_0 a0_1 a0_2 a0_3 a0_4 l0_5 (x17_3.set (ji44 : Int).toNat ((rd_L4 x17_3 ji44).set ((ji68) : Int).toNat (Go.bits .xor .u64 (rd (rd_L4 x17_3 ji44) (ji68)) (ji73))))).bind fun bt415 => ((steeplelaw27_awake.f k3).bind fun t417 => (if t417 = true then (if bt415.2 = 0 then (some (!bt415.1)) else (some false)) else (some false)))) = some r := by first | (rw [hji73] at H; exact H) | (simp only [hji73] at H ⊢; exact H)
                      have hji73_ : (IntKind.u64.wrap (1 * 2 ^ min (ji71).toNat 64)) = ji73 := hji73; have hji73z : (ji71) ≤ 64 → (IntKind.u64.wrap (1 * 2 ^ (ji71).toNat)) = ji73 := shl_small hji73
                      have hji73u : (IntKind.u64.wrap (2 ^ min (ji71).toNat 64)) = ji73 := by have h_ := hji73_; rw [Int.one_mul] at h_; exact h_
                      have hji73v : (ji71) ≤ 64 → (IntKind.u64.wrap (2 ^ (ji71).toNat)) = ji73 := fun hle_ => by have h_ := hji73z hle_; rw [Int.one_mul] at h_; exact h_
                      obtain ⟨y412, hy412⟩ : ∃ y_ : List Int, y_ = ((rd_L4 x17_3 ji44).set ((ji68) : Int).toNat (Go.bits .xor .u64 (rd (rd_L4 x17_3 ji44) (ji68)) (ji73))) := ⟨_, rfl⟩
                      replace H : ((witness_Holds.f k3 a0_0 a0_1 a0_2 a0_3 a0_4 l0_5 (x17_3.set (ji44 : Int).toNat y412)).bind fun bt415 => ((steeplelaw27_awake.f k3).bind fun t417 => (if t417 = true then (if bt415.2 = 0 then (some (!bt415.1)) else (some false)) else (some false)))) = some r := by first | (rw [hy412]; with_reducible exact H) | (have H2_ := (Option.bind_some _ _).symm.trans H; rw [hy412]; with_reducible exact H2_) | (have H2_ := (Option.bind_some _ _).symm.trans H; with_reducible exact H2_) | with_reducible exact H | (rw [hy412]; exact H) | exact H
                      have Ny412 := Aside0.mk hy412; clear hy412
                      obtain ⟨y414, hy414⟩ : ∃ y_ : List (List Int), y_ = (x17_3.set (ji44 : Int).toNat y412) := ⟨_, rfl⟩
                      replace H : ((witness_Holds.f k3 a0_0 a0_1 a0_2 a0_3 a0_4 l0_5 y414).bind fun bt415 => ((steeplelaw27_awake.f k3).bind fun t417 => (if t417 = true then (if bt415.2 = 0 then (some (!bt415.1)) else (some false)) else (some false)))) = some r := by first | (rw [hy414]; with_reducible exact H) | (have H2_ := (Option.bind_some _ _).symm.trans H; rw [hy414]; with_reducible exact H2_) | (have H2_ := (Option.bind_some _ _).symm.trans H; with_reducible exact H2_) | with_reducible exact H | (rw [hy414]; exact H) | exact H
                      have Ny414 := Aside0.mk hy414; clear hy414; replace H := Option.bind_eq_some_iff.mp H
                      obtain ⟨⟨t415, t416⟩, A750, H⟩ := H
                      (try dsimp only at H)
                      have A75 := Aside0.mk A750; clear A750; replace H := Option.bind_eq_some_iff.mp H; obtain ⟨t417, A760, H⟩ := H
                      (try dsimp only at H)
                      have A76 := Aside0.mk A760; clear A760
                      by_cases c77 : t417 = true
                      ·subst c77
                       have H1 : (if t416 = 0 then (some (!t415)) else (some false)) = some r := by rw [if_pos rfl] at H; exact H
                       clear H; have H := H1; clear H1
                       by_cases c78 : t416 = 0
                       ·rw [if_pos c78] at H
                        have c78b0 : (t416 == 0) = true := beq_iff_eq.mpr c78; have c78b1 : (t416 != 0) = false := bne_eq_false_iff_eq.mpr c78; clear c78; obtain rfl := Option.some.inj H
                        try go_wp2
                        have n0_ := Aside0.mk (Kd.S_drew HO_7.out); have n1_ := Aside0.mk (Kd.S_drew HO_17.out); have n2_ := Aside0.mk (blk_drew BK376.out); have n3_ := Aside0.mk (blk_drew BK377.out); have n4_ := Aside0.mk (below_drew1 HB.out); clear HO_7; clear HO_17; clear BK376; clear BK377; clear HB; have HO_7 := n0_; have HO_17 := n1_; have BK376 := n2_; have BK377 := n3_; have HB := n4_; clear n0_ n1_ n2_ n3_ n4_; obtain ⟨Ao80, co80, eo80⟩ := Kd.S_slice HO_17.out
                        (first | subst eo80 | (injection eo80 with f1_ f2_ f3_; have f4_ := f1_.symm; have f5_ := f3_.symm; clear f1_ f2_ f3_; subst f4_; subst f5_))
                        have p409 : 0 ≤ (ji44 : Int) := of_decide_eq_true (by first | (with_reducible assumption) | assumption)
                        have q409 : ji44 < (x17_3.length : Int) := of_decide_eq_true (by first | (with_reducible assumption) | assumption)
                        obtain ⟨ad409, A409_0, c409_0, e409, hx409_0, hl409_0, hi409_0⟩ := at_L4 (Kd.S_reads' HO_17.out).2.2 ji44 p409 q409
                        cases e409
                        obtain ⟨ce409, hce409, hMe409, hcc409⟩ := Kd.S_get HO_17.out [] ji44 p409 (by first | exact q409 | exact of_decide_eq_true (by first | (with_reducible assumption) | assumption) | (have e_ := (Kd.S_reads' HO_17.out).1; omega))
                        obtain ⟨ve409_0, rfl, ge409_0⟩ := hMe409; have hv409_0 := hcc409 0 _ rfl
                        rw [Nat.add_zero, show ((Kd.slice 43 (Kd.int .u64))).sz = 1 from rfl, Nat.mul_one] at hv409_0
                        replace hv409_0 := Option.some.inj (hv409_0.symm.trans hx409_0)
                        rw [hv409_0] at ge409_0
                        have HL409_0 := Aside0.mk (show Kd.R (Kd.int .u64) 43 _ _ _ _ (rd_L4 x17_3 ji44) from ge409_0)
                        clear hv409_0 ge409_0; have HX409_0 := Aside0.mk hx409_0; clear hcc409 hce409; have HR409_0 := Aside0.mk hi409_0; have HC409_0 := Aside0.mk hl409_0; clear hi409_0 hl409_0; replace p409 := eq_true p409; replace q409 := eq_true q409
                        have p410 : 0 ≤ (ji44 : Int) := of_decide_eq_true (by first | (with_reducible assumption) | assumption)
                        have q410 : ji44 < (x17_3.length : Int) := of_decide_eq_true (by first | (with_reducible assumption) | assumption)
                        obtain ⟨ad410, A410_0, c410_0, e410, hx410_0, hl410_0, hi410_0⟩ := at_L4 (Kd.S_reads' HO_17.out).2.2 ji44 p410 q410
                        obtain rfl : ad409 = ad410 := (by injection e410)
                        obtain ⟨ce410, hce410, hMe410, hcc410⟩ := Kd.S_get HO_17.out [] ji44 p410 (by first | exact q410 | exact of_decide_eq_true (by first | (with_reducible assumption) | assumption) | (have e_ := (Kd.S_reads' HO_17.out).1; omega))
                        obtain ⟨ve410_0, rfl, ge410_0⟩ := hMe410; have hv410_0 := hcc410 0 _ rfl
                        rw [Nat.add_zero, show ((Kd.slice 43 (Kd.int .u64))).sz = 1 from rfl, Nat.mul_one] at hv410_0
                        replace hv410_0 := Option.some.inj (hv410_0.symm.trans hx410_0)
                        rw [hv410_0] at ge410_0
                        have HL410_0 := Aside0.mk (show Kd.R (Kd.int .u64) 43 _ _ _ _ (rd_L4 x17_3 ji44) from ge410_0)
                        clear hv410_0 ge410_0; have HX410_0 := Aside0.mk hx410_0; clear hcc410 hce410; have HR410_0 := Aside0.mk hi410_0; have HC410_0 := Aside0.mk hl410_0; clear hi410_0 hl410_0; replace p410 := eq_true p410; replace q410 := eq_true q410; have ea_ := Option.some.inj (hx409_0.symm.trans hx410_0)
                        injection ea_ with ea_ en_ ec_
                        subst ea_; subst ec_; clear en_
                        have p411 : 0 ≤ ((ji68) : Int) := of_decide_eq_true (by first | (with_reducible assumption) | assumption)
                        have q411 : (ji68) < ((rd_L4 x17_3 ji44).length : Int) := of_decide_eq_true (by first | (with_reducible assumption) | assumption)
                        obtain ⟨ad411, e411, hx411_0⟩ := Kd.at_int (by repeat (first | (with_reducible exact HR410_0.out) | (with_reducible refine Kd.C_alloc ?_ _) | (with_reducible refine Kd.C_drewN ?_ _) | (with_reducible refine Kd.C_drew ?_) | exact HR410_0.out)) (ji68) p411 q411
                        cases e411
                        replace p411 := eq_true p411; replace q411 := eq_true q411
                        have p74 : 0 ≤ ((ji68) : Int) := of_decide_eq_true (by first | (with_reducible assumption) | assumption)
                        have q74 : ((ji68) : Int) < (((rd_L4 x17_3 ji44).length : Int) : Int) := of_decide_eq_true (by first | (with_reducible assumption) | assumption)
                        obtain ⟨go74, co74, eo74, gb74, gl74, cl74, HG74⟩ := Kd.R_form HL409_0.out (by omega)
                        (first | cases eo74 | (injection eo74 with ea_ en_ ec_; (first | subst ea_ | (injection ea_ with ea_; subst ea_)); subst ec_; clear en_))
                        have GB74 := Aside0.mk gb74; have GG74 := Aside0.mk HG74; clear gb74 gl74 HG74
                        (first | simp only [add_plain] at hx411_0 | skip)
                        obtain ⟨hx74_0, hf74_0⟩ := Kd.R_celln 0 HL409_0.out ((ji68) : Int) p74 q74; replace p74 := eq_true p74; replace q74 := eq_true q74
                        have n_ := Aside0.mk (Kd.S_mono (ok' := (fun _ => True)) HO_17.out (fun k_ hk => trivial))
                        clear HO_17; have HO_17 := n_; clear n_
                        have hq81 : (ji44 : Int) < (x17_3.length : Int) := (by have h_ : (ji44 : Int) < ((x17_3.length : Int) : Int) := of_decide_eq_true (by first | (with_reducible assumption) | assumption); first | exact h_ | (have e_ := (Kd.S_reads' HO_17.out).1; omega) | simpa only [List.length_set, List.length_set] using h_)
                        obtain ⟨oki81, ce81, hcl81, hM81, hcc81, hok81, hbk81⟩ := Kd.S_borrow HO_17.out [] (ji44 : Int) (of_decide_eq_true (by first | (with_reducible assumption) | assumption)) (by first | exact hq81 | exact of_decide_eq_true (by first | (with_reducible assumption) | assumption) | (have e_ := (Kd.S_reads' HO_17.out).1; omega))
                        obtain ⟨ve81_0, rfl, ge81_0⟩ := hM81; have hv81 := hcc81 0 _ rfl
                        rw [Nat.add_zero, show ((Kd.slice 43 (Kd.int .u64))).sz = 1 from rfl, Nat.mul_one] at hv81
                        replace hv81 := Option.some.inj (hv81.symm.trans HX409_0.out); subst hv81; clear hcc81 hcl81
                        replace ge81_0 := (show Kd.R (Kd.int .u64) 43 _ _ _ _ (rd_L4 x17_3 ji44) from ge81_0)
                        have HP81 := Kd.R_putg ge81_0 ((ji68) : Int) (Go.bits .xor .u64 (rd (rd_L4 x17_3 ji44) (ji68)) (ji73))
                        rw [← Ny412.out] at HP81
                        have HS81 := hbk81 HP81.2 (fun k_ e_ => by injection e_ with e_; subst e_; exact ge81_0.1 _ rfl) (x' := y412) (Kd.M_row HP81.1)
                        rw [← Ny414.out] at HS81
                        have HQ81 := Aside0.mk HS81; clear HP81 HS81 hbk81 hok81
                        refine start_ (n := 18) (S := fun w' => w'.cell? (ad409.add (ji44).toNat) = some (.slice (some ⟨go74, 0, none⟩) (rd_L4 x17_3 ji44).length c409_0) ∧ w'.cell? (ad409.add (ji44).toNat) = some (.slice (some ⟨go74, 0, none⟩) (rd_L4 x17_3 ji44).length c409_0) ∧ w'.cell? ⟨go74, ((ji68)).toNat, none⟩ = some (.int .u64 (rd (rd_L4 x17_3 ji44) (ji68)))) (ds := [17]) #[false, false, false, false, false, false, false, false, false, false, false, false, false, false, false, false, false, false] (by kernel_rfl) rfl rfl ⟨hx409_0, hx410_0, hx411_0⟩ (fun hHeld => ?_); refine with_tabW steeplelaw27_WitnessOne.tab21 steeplelaw27_WitnessOne.bits21 (fun HT_ HW_ => ?_)
                        generalize wr.drew = w79 at HO_7 HO_17 BK376 BK377 HB GG74 HL409_0 HL410_0 HQ81 HR409_0 HR410_0 HX409_0 HX410_0 hf74_0 hx409_0 hx410_0 hx411_0 hx74_0 hHeld ⊢
                        refine pureA 0 (some 128) HT_.out ?_
                        refine pureA 1 (some 129) HT_.out ?_
                        refine pureA 2 (some 130) HT_.out ?_
                        refine pureA 4 (some 132) HT_.out ?_
                        refine pureA 5 (some 133) HT_.out ?_
                        refine pureA 6 (some 134) HT_.out ?_
                        refine pureA 7 (some 135) HT_.out ?_
                        refine pureA 9 (some 137) HT_.out ?_
                        refine pureA 12 (some 140) HT_.out ?_
                        refine pureA 13 (some 141) HT_.out ?_
                        refine pureA 14 (some 142) HT_.out ?_
                        refine takeA 3 (some 131) rfl HT_.out HW_.out hHeld (Or.inl ⟨by rfl, by rintro w' ⟨s0, s1, s2⟩; go_simp; with_reducible rfl⟩) ?_
                        refine takeA 8 (some 136) rfl HT_.out HW_.out hHeld (Or.inl ⟨by rfl, by rintro w' ⟨s0, s1, s2⟩; go_simp; with_reducible rfl⟩) ?_
                        refine pureA 10 (some 138) HT_.out ?_
                        refine takeA 11 (some 139) rfl HT_.out HW_.out hHeld (Or.inl ⟨by rfl, by rintro w' ⟨s0, s1, s2⟩; go_simp; with_reducible rfl⟩) ?_
                        refine pureA 15 (some 143) HT_.out ?_
                        refine pureA 16 (some 144) HT_.out ?_
                        refine last_ (i := 17) (N := none) #[true, true, true, true, true, true, true, true, true, true, true, true, true, true, true, true, true, true] rfl rfl (one_of HT_.out (by kernel_rfl)) (by decide) (fun K hK => ?_)
                        refine skip_ (w1 := ?_) (by rfl) rfl ?_ ?_
                        rotate_left
                        ·go_simp
                         rfl
                        refine hK.out _ _ ?_
                        clear hK K
                        refine done_ (done_of HT_.out (by kernel_rfl)) ?_
                        have hnb83 := NB376_377.out; have hnc83 := NB377_376.out
                        have hcz84 := fun i => blk_cell BK376.out i
                        have hfz84 := fun i => blk_frozen BK376.out i
                        have hnb_3760 : go74 ≠ gb376 := (by have h_ := Kd.R_ne HL409_0.out BK376.out (by decide); intro e_; exact h_ (by rw [e_]; rfl)); have hnc_3760 := Ne.symm hnb_3760
                        try go_wp2_with (first | ((with_reducible refine gate_callee (f := 31) rfl ?_); refine goesL_ (some 148) rfl rfl Try.func31 (by kernel_rfl) rfl #[.agg #[.int .i64 a0_0, .int .i64 a0_1, .int .i64 a0_2, .int .i64 a0_3, .int .i64 a0_4, .slice A0_5 l0_5.length c0_5], .slice (some ad409) y414.length co80] rfl (by (try simp only [List.map_toArray, List.map_cons, List.map_nil]); first | done | (rw [show y414.length = x17_3.length from (Kd.S_reads' HQ81.out).1.symm] <;> rfl) | rfl | (simp only [List.length_drop, List.length_take]; rfl)) ?_; (with_reducible refine (witness_Holds.calls k3 a0_0 a0_1 a0_2 a0_3 a0_4 _ _ l0_5 _ _ y414 t415 t416 _ ?side1 ?side2 ?side3 ?side4 A75.out).mono ?_); (case side1 => exact Kd.C_below HR0_5.out (blA HB.out)); (case side2 => exact HC0_5.out); (case side3 => refine (Kd.S_reads' (e := 68) (base := w.heap.size) (ok := fun k_ => True) (n := x17_3.length) (c := co80) ?_).2.2; exact (by (with_reducible repeat (first | apply Kd.S_alloc | apply Kd.S_drewN | apply Kd.S_drew)); exact HQ81.out)); (case side4 => rw [show y414.length = x17_3.length from (Kd.S_reads' HQ81.out).1.symm]; exact (Kd.S_reads' HO_17.out).2.1); rintro e w85 ⟨rfl, hb⟩; refine ⟨_, rfl, ?_⟩; have n0_ := Aside0.mk (Kd.S_below (by (with_reducible repeat (first | apply Kd.S_alloc | apply Kd.S_drewN | apply Kd.S_drew)); exact HQ81.out) hb); have n1_ := Aside0.mk (blk_below (g := gb376) (o := .cells #[.int .i64 a0_0, .int .i64 a0_1, .int .i64 a0_2, .int .i64 a0_3, .int .i64 a0_4, .slice A0_5 l0_5.length c0_5] 24 (0, 0)) (by refine bkA ?_; refine blk_far ?_ (by have h_ := Kd.R_ne HL409_0.out BK376.out (by decide); intro e_; exact h_ (by rw [e_]; rfl)) _; refine bkA ?_; exact BK376.out) hb); have n2_ := Aside0.mk (blk_below (g := gb377) (o := .cells #[.int .i64 a2_0, .int .i64 a2_1, .int .i64 a2_2] 65 (0, 0)) (by refine bkA ?_; refine blk_far ?_ (by have h_ := Kd.R_ne HL409_0.out BK377.out (by decide); intro e_; exact h_ (by rw [e_]; rfl)) _; refine bkA ?_; exact BK377.out) hb); have n3_ := Aside0.mk (below_step (blA HB.out) hb); clear HO_17; clear BK376; clear BK377; clear HB; have HO_17 := n0_; have BK376 := n1_; have BK377 := n2_; have HB := n3_; clear n0_ n1_ n2_ n3_; (try clear hb)) | ((with_reducible refine gate_callee (f := 27) rfl ?_); refine goesL_ (some 151) rfl rfl Try.func27 (by kernel_rfl) rfl #[] rfl gsA ?_; (with_reducible refine (steeplelaw27_awake.calls k3  true _ A76.out).mono ?_); rintro e w86 ⟨rfl, hb⟩; refine ⟨_, rfl, ?_⟩; have n0_ := Aside0.mk (Kd.S_below (by (with_reducible repeat (first | apply Kd.S_alloc | apply Kd.S_drewN | apply Kd.S_drew)); exact HO_17.out) hb); have n1_ := Aside0.mk (blk_below (bkA BK376.out) hb); have n2_ := Aside0.mk (blk_below (bkA BK377.out) hb); have n3_ := Aside0.mk (below_step (blA HB.out) hb); clear HO_17; clear BK376; clear BK377; clear HB; have HO_17 := n0_; have BK376 := n1_; have BK377 := n2_; have HB := n3_; clear n0_ n1_ n2_ n3_; (try clear hb)))
                        go_ret
                        exact ⟨by first | rfl | (simp [errW_none, errW_some] <;> rfl) | (simp only [← hji44, ← hji68, ← hji71, ← hji73]; first | rfl | (simp [errW_none, errW_some] <;> rfl)) | (simp [*, errW_none, errW_some] <;> rfl), blA HB.out⟩
                       ·rw [if_neg c78] at H
                        have c78b0 : (t416 == 0) = false := beq_eq_false_iff_ne.mpr c78; have c78b1 : (t416 != 0) = true := bne_iff_ne.mpr c78; obtain rfl := Option.some.inj H
                        try go_wp2
                        have n0_ := Aside0.mk (Kd.S_drew HO_7.out); have n1_ := Aside0.mk (Kd.S_drew HO_17.out); have n2_ := Aside0.mk (blk_drew BK376.out); have n3_ := Aside0.mk (blk_drew BK377.out); have n4_ := Aside0.mk (below_drew1 HB.out); clear HO_7; clear HO_17; clear BK376; clear BK377; clear HB; have HO_7 := n0_; have HO_17 := n1_; have BK376 := n2_; have BK377 := n3_; have HB := n4_; clear n0_ n1_ n2_ n3_ n4_; obtain ⟨Ao88, co88, eo88⟩ := Kd.S_slice HO_17.out
                        (first | subst eo88 | (injection eo88 with f1_ f2_ f3_; have f4_ := f1_.symm; have f5_ := f3_.symm; clear f1_ f2_ f3_; subst f4_; subst f5_))
                        have p409 : 0 ≤ (ji44 : Int) := of_decide_eq_true (by first | (with_reducible assumption) | assumption)
                        have q409 : ji44 < (x17_3.length : Int) := of_decide_eq_true (by first | (with_reducible assumption) | assumption)
                        obtain ⟨ad409, A409_0, c409_0, e409, hx409_0, hl409_0, hi409_0⟩ := at_L4 (Kd.S_reads' HO_17.out).2.2 ji44 p409 q409
                        cases e409
                        obtain ⟨ce409, hce409, hMe409, hcc409⟩ := Kd.S_get HO_17.out [] ji44 p409 (by first | exact q409 | exact of_decide_eq_true (by first | (with_reducible assumption) | assumption) | (have e_ := (Kd.S_reads' HO_17.out).1; omega))
                        obtain ⟨ve409_0, rfl, ge409_0⟩ := hMe409; have hv409_0 := hcc409 0 _ rfl
                        rw [Nat.add_zero, show ((Kd.slice 43 (Kd.int .u64))).sz = 1 from rfl, Nat.mul_one] at hv409_0
                        replace hv409_0 := Option.some.inj (hv409_0.symm.trans hx409_0)
                        rw [hv409_0] at ge409_0
                        have HL409_0 := Aside0.mk (show Kd.R (Kd.int .u64) 43 _ _ _ _ (rd_L4 x17_3 ji44) from ge409_0)
                        clear hv409_0 ge409_0; have HX409_0 := Aside0.mk hx409_0; clear hcc409 hce409; have HR409_0 := Aside0.mk hi409_0; have HC409_0 := Aside0.mk hl409_0; clear hi409_0 hl409_0; replace p409 := eq_true p409; replace q409 := eq_true q409
                        have p410 : 0 ≤ (ji44 : Int) := of_decide_eq_true (by first | (with_reducible assumption) | assumption)
                        have q410 : ji44 < (x17_3.length : Int) := of_decide_eq_true (by first | (with_reducible assumption) | assumption)
                        obtain ⟨ad410, A410_0, c410_0, e410, hx410_0, hl410_0, hi410_0⟩ := at_L4 (Kd.S_reads' HO_17.out).2.2 ji44 p410 q410
                        obtain rfl : ad409 = ad410 := (by injection e410)
                        obtain ⟨ce410, hce410, hMe410, hcc410⟩ := Kd.S_get HO_17.out [] ji44 p410 (by first | exact q410 | exact of_decide_eq_true (by first | (with_reducible assumption) | assumption) | (have e_ := (Kd.S_reads' HO_17.out).1; omega))
                        obtain ⟨ve410_0, rfl, ge410_0⟩ := hMe410; have hv410_0 := hcc410 0 _ rfl
                        rw [Nat.add_zero, show ((Kd.slice 43 (Kd.int .u64))).sz = 1 from rfl, Nat.mul_one] at hv410_0
                        replace hv410_0 := Option.some.inj (hv410_0.symm.trans hx410_0)
                        rw [hv410_0] at ge410_0
                        have HL410_0 := Aside0.mk (show Kd.R (Kd.int .u64) 43 _ _ _ _ (rd_L4 x17_3 ji44) from ge410_0)
                        clear hv410_0 ge410_0; have HX410_0 := Aside0.mk hx410_0; clear hcc410 hce410; have HR410_0 := Aside0.mk hi410_0; have HC410_0 := Aside0.mk hl410_0; clear hi410_0 hl410_0; replace p410 := eq_true p410; replace q410 := eq_true q410; have ea_ := Option.some.inj (hx409_0.symm.trans hx410_0)
                        injection ea_ with ea_ en_ ec_
                        subst ea_; subst ec_; clear en_
                        have p411 : 0 ≤ ((ji68) : Int) := of_decide_eq_true (by first | (with_reducible assumption) | assumption)
                        have q411 : (ji68) < ((rd_L4 x17_3 ji44).length : Int) := of_decide_eq_true (by first | (with_reducible assumption) | assumption)
                        obtain ⟨ad411, e411, hx411_0⟩ := Kd.at_int (by repeat (first | (with_reducible exact HR410_0.out) | (with_reducible refine Kd.C_alloc ?_ _) | (with_reducible refine Kd.C_drewN ?_ _) | (with_reducible refine Kd.C_drew ?_) | exact HR410_0.out)) (ji68) p411 q411
                        cases e411
                        replace p411 := eq_true p411; replace q411 := eq_true q411
                        have p74 : 0 ≤ ((ji68) : Int) := of_decide_eq_true (by first | (with_reducible assumption) | assumption)
                        have q74 : ((ji68) : Int) < (((rd_L4 x17_3 ji44).length : Int) : Int) := of_decide_eq_true (by first | (with_reducible assumption) | assumption)
                        obtain ⟨go74, co74, eo74, gb74, gl74, cl74, HG74⟩ := Kd.R_form HL409_0.out (by omega)
                        (first | cases eo74 | (injection eo74 with ea_ en_ ec_; (first | subst ea_ | (injection ea_ with ea_; subst ea_)); subst ec_; clear en_))
                        have GB74 := Aside0.mk gb74; have GG74 := Aside0.mk HG74; clear gb74 gl74 HG74
                        (first | simp only [add_plain] at hx411_0 | skip)
                        obtain ⟨hx74_0, hf74_0⟩ := Kd.R_celln 0 HL409_0.out ((ji68) : Int) p74 q74; replace p74 := eq_true p74; replace q74 := eq_true q74
                        have n_ := Aside0.mk (Kd.S_mono (ok' := (fun _ => True)) HO_17.out (fun k_ hk => trivial))
                        clear HO_17; have HO_17 := n_; clear n_
                        have hq89 : (ji44 : Int) < (x17_3.length : Int) := (by have h_ : (ji44 : Int) < ((x17_3.length : Int) : Int) := of_decide_eq_true (by first | (with_reducible assumption) | assumption); first | exact h_ | (have e_ := (Kd.S_reads' HO_17.out).1; omega) | simpa only [List.length_set, List.length_set] using h_)
                        obtain ⟨oki89, ce89, hcl89, hM89, hcc89, hok89, hbk89⟩ := Kd.S_borrow HO_17.out [] (ji44 : Int) (of_decide_eq_true (by first | (with_reducible assumption) | assumption)) (by first | exact hq89 | exact of_decide_eq_true (by first | (with_reducible assumption) | assumption) | (have e_ := (Kd.S_reads' HO_17.out).1; omega))
                        obtain ⟨ve89_0, rfl, ge89_0⟩ := hM89; have hv89 := hcc89 0 _ rfl
                        rw [Nat.add_zero, show ((Kd.slice 43 (Kd.int .u64))).sz = 1 from rfl, Nat.mul_one] at hv89
                        replace hv89 := Option.some.inj (hv89.symm.trans HX409_0.out); subst hv89; clear hcc89 hcl89
                        replace ge89_0 := (show Kd.R (Kd.int .u64) 43 _ _ _ _ (rd_L4 x17_3 ji44) from ge89_0)
                        have HP89 := Kd.R_putg ge89_0 ((ji68) : Int) (Go.bits .xor .u64 (rd (rd_L4 x17_3 ji44) (ji68)) (ji73))
                        rw [← Ny412.out] at HP89
                        have HS89 := hbk89 HP89.2 (fun k_ e_ => by injection e_ with e_; subst e_; exact ge89_0.1 _ rfl) (x' := y412) (Kd.M_row HP89.1)
                        rw [← Ny414.out] at HS89
                        have HQ89 := Aside0.mk HS89; clear HP89 HS89 hbk89 hok89
                        refine start_ (n := 18) (S := fun w' => w'.cell? (ad409.add (ji44).toNat) = some (.slice (some ⟨go74, 0, none⟩) (rd_L4 x17_3 ji44).length c409_0) ∧ w'.cell? (ad409.add (ji44).toNat) = some (.slice (some ⟨go74, 0, none⟩) (rd_L4 x17_3 ji44).length c409_0) ∧ w'.cell? ⟨go74, ((ji68)).toNat, none⟩ = some (.int .u64 (rd (rd_L4 x17_3 ji44) (ji68)))) (ds := [17]) #[false, false, false, false, false, false, false, false, false, false, false, false, false, false, false, false, false, false] (by kernel_rfl) rfl rfl ⟨hx409_0, hx410_0, hx411_0⟩ (fun hHeld => ?_); refine with_tabW steeplelaw27_WitnessOne.tab21 steeplelaw27_WitnessOne.bits21 (fun HT_ HW_ => ?_)
                        generalize wr.drew = w87 at HO_7 HO_17 BK376 BK377 HB GG74 HL409_0 HL410_0 HQ89 HR409_0 HR410_0 HX409_0 HX410_0 hf74_0 hx409_0 hx410_0 hx411_0 hx74_0 hHeld ⊢
                        refine pureA 0 (some 128) HT_.out ?_
                        refine pureA 1 (some 129) HT_.out ?_
                        refine pureA 2 (some 130) HT_.out ?_
                        refine pureA 4 (some 132) HT_.out ?_
                        refine pureA 5 (some 133) HT_.out ?_
                        refine pureA 6 (some 134) HT_.out ?_
                        refine pureA 7 (some 135) HT_.out ?_
                        refine pureA 9 (some 137) HT_.out ?_
                        refine pureA 12 (some 140) HT_.out ?_
                        refine pureA 13 (some 141) HT_.out ?_
                        refine pureA 14 (some 142) HT_.out ?_
                        refine takeA 3 (some 131) rfl HT_.out HW_.out hHeld (Or.inl ⟨by rfl, by rintro w' ⟨s0, s1, s2⟩; go_simp; with_reducible rfl⟩) ?_
                        refine takeA 8 (some 136) rfl HT_.out HW_.out hHeld (Or.inl ⟨by rfl, by rintro w' ⟨s0, s1, s2⟩; go_simp; with_reducible rfl⟩) ?_
                        refine pureA 10 (some 138) HT_.out ?_
                        refine takeA 11 (some 139) rfl HT_.out HW_.out hHeld (Or.inl ⟨by rfl, by rintro w' ⟨s0, s1, s2⟩; go_simp; with_reducible rfl⟩) ?_
                        refine pureA 15 (some 143) HT_.out ?_
                        refine pureA 16 (some 144) HT_.out ?_
                        refine last_ (i := 17) (N := none) #[true, true, true, true, true, true, true, true, true, true, true, true, true, true, true, true, true, true] rfl rfl (one_of HT_.out (by kernel_rfl)) (by decide) (fun K hK => ?_)
                        refine skip_ (w1 := ?_) (by rfl) rfl ?_ ?_
                        rotate_left
                        ·go_simp
                         rfl
                        refine hK.out _ _ ?_
                        clear hK K
                        refine done_ (done_of HT_.out (by kernel_rfl)) ?_
                        have hnb91 := NB376_377.out; have hnc91 := NB377_376.out
                        have hcz92 := fun i => blk_cell BK376.out i
                        have hfz92 := fun i => blk_frozen BK376.out i
                        have hnb_3760 : go74 ≠ gb376 := (by have h_ := Kd.R_ne HL409_0.out BK376.out (by decide); intro e_; exact h_ (by rw [e_]; rfl)); have hnc_3760 := Ne.symm hnb_3760
                        try go_wp2_with (first | ((with_reducible refine gate_callee (f := 31) rfl ?_); refine goesL_ (some 148) rfl rfl Try.func31 (by kernel_rfl) rfl #[.agg #[.int .i64 a0_0, .int .i64 a0_1, .int .i64 a0_2, .int .i64 a0_3, .int .i64 a0_4, .slice A0_5 l0_5.length c0_5], .slice (some ad409) y414.length co88] rfl (by (try simp only [List.map_toArray, List.map_cons, List.map_nil]); first | done | (rw [show y414.length = x17_3.length from (Kd.S_reads' HQ89.out).1.symm] <;> rfl) | rfl | (simp only [List.length_drop, List.length_take]; rfl)) ?_; (with_reducible refine (witness_Holds.calls k3 a0_0 a0_1 a0_2 a0_3 a0_4 _ _ l0_5 _ _ y414 t415 t416 _ ?side1 ?side2 ?side3 ?side4 A75.out).mono ?_); (case side1 => exact Kd.C_below HR0_5.out (blA HB.out)); (case side2 => exact HC0_5.out); (case side3 => refine (Kd.S_reads' (e := 68) (base := w.heap.size) (ok := fun k_ => True) (n := x17_3.length) (c := co88) ?_).2.2; exact (by (with_reducible repeat (first | apply Kd.S_alloc | apply Kd.S_drewN | apply Kd.S_drew)); exact HQ89.out)); (case side4 => rw [show y414.length = x17_3.length from (Kd.S_reads' HQ89.out).1.symm]; exact (Kd.S_reads' HO_17.out).2.1); rintro e w93 ⟨rfl, hb⟩; refine ⟨_, rfl, ?_⟩; have n0_ := Aside0.mk (Kd.S_below (by (with_reducible repeat (first | apply Kd.S_alloc | apply Kd.S_drewN | apply Kd.S_drew)); exact HQ89.out) hb); have n1_ := Aside0.mk (blk_below (g := gb376) (o := .cells #[.int .i64 a0_0, .int .i64 a0_1, .int .i64 a0_2, .int .i64 a0_3, .int .i64 a0_4, .slice A0_5 l0_5.length c0_5] 24 (0, 0)) (by refine bkA ?_; refine blk_far ?_ (by have h_ := Kd.R_ne HL409_0.out BK376.out (by decide); intro e_; exact h_ (by rw [e_]; rfl)) _; refine bkA ?_; exact BK376.out) hb); have n2_ := Aside0.mk (blk_below (g := gb377) (o := .cells #[.int .i64 a2_0, .int .i64 a2_1, .int .i64 a2_2] 65 (0, 0)) (by refine bkA ?_; refine blk_far ?_ (by have h_ := Kd.R_ne HL409_0.out BK377.out (by decide); intro e_; exact h_ (by rw [e_]; rfl)) _; refine bkA ?_; exact BK377.out) hb); have n3_ := Aside0.mk (below_step (blA HB.out) hb); clear HO_17; clear BK376; clear BK377; clear HB; have HO_17 := n0_; have BK376 := n1_; have BK377 := n2_; have HB := n3_; clear n0_ n1_ n2_ n3_; (try clear hb)) | ((with_reducible refine gate_callee (f := 27) rfl ?_); refine goesL_ (some 151) rfl rfl Try.func27 (by kernel_rfl) rfl #[] rfl gsA ?_; (with_reducible refine (steeplelaw27_awake.calls k3  true _ A76.out).mono ?_); rintro e w94 ⟨rfl, hb⟩; refine ⟨_, rfl, ?_⟩; have n0_ := Aside0.mk (Kd.S_below (by (with_reducible repeat (first | apply Kd.S_alloc | apply Kd.S_drewN | apply Kd.S_drew)); exact HO_17.out) hb); have n1_ := Aside0.mk (blk_below (bkA BK376.out) hb); have n2_ := Aside0.mk (blk_below (bkA BK377.out) hb); have n3_ := Aside0.mk (below_step (blA HB.out) hb); clear HO_17; clear BK376; clear BK377; clear HB; have HO_17 := n0_; have BK376 := n1_; have BK377 := n2_; have HB := n3_; clear n0_ n1_ n2_ n3_; (try clear hb)))
                        go_ret
                        exact ⟨by first | rfl | (simp [errW_none, errW_some] <;> rfl) | (simp only [← hji44, ← hji68, ← hji71, ← hji73]; first | rfl | (simp [errW_none, errW_some] <;> rfl)) | (simp [*, errW_none, errW_some] <;> rfl), blA HB.out⟩
                      ·replace c77 := Bool.eq_false_iff.mpr c77; subst c77
                       have H1 : (some false) = some r := by rw [if_neg (show ¬ (false = true) by decide)] at H; exact H
                       clear H; have H := H1; clear H1; obtain rfl := Option.some.inj H
                       try go_wp2
                       have n0_ := Aside0.mk (Kd.S_drew HO_7.out); have n1_ := Aside0.mk (Kd.S_drew HO_17.out); have n2_ := Aside0.mk (blk_drew BK376.out); have n3_ := Aside0.mk (blk_drew BK377.out); have n4_ := Aside0.mk (below_drew1 HB.out); clear HO_7; clear HO_17; clear BK376; clear BK377; clear HB; have HO_7 := n0_; have HO_17 := n1_; have BK376 := n2_; have BK377 := n3_; have HB := n4_; clear n0_ n1_ n2_ n3_ n4_; obtain ⟨Ao96, co96, eo96⟩ := Kd.S_slice HO_17.out
                       (first | subst eo96 | (injection eo96 with f1_ f2_ f3_; have f4_ := f1_.symm; have f5_ := f3_.symm; clear f1_ f2_ f3_; subst f4_; subst f5_))
                       have p409 : 0 ≤ (ji44 : Int) := of_decide_eq_true (by first | (with_reducible assumption) | assumption)
                       have q409 : ji44 < (x17_3.length : Int) := of_decide_eq_true (by first | (with_reducible assumption) | assumption)
                       obtain ⟨ad409, A409_0, c409_0, e409, hx409_0, hl409_0, hi409_0⟩ := at_L4 (Kd.S_reads' HO_17.out).2.2 ji44 p409 q409
                       cases e409
                       obtain ⟨ce409, hce409, hMe409, hcc409⟩ := Kd.S_get HO_17.out [] ji44 p409 (by first | exact q409 | exact of_decide_eq_true (by first | (with_reducible assumption) | assumption) | (have e_ := (Kd.S_reads' HO_17.out).1; omega))
                       obtain ⟨ve409_0, rfl, ge409_0⟩ := hMe409; have hv409_0 := hcc409 0 _ rfl
                       rw [Nat.add_zero, show ((Kd.slice 43 (Kd.int .u64))).sz = 1 from rfl, Nat.mul_one] at hv409_0
                       replace hv409_0 := Option.some.inj (hv409_0.symm.trans hx409_0)
                       rw [hv409_0] at ge409_0
                       have HL409_0 := Aside0.mk (show Kd.R (Kd.int .u64) 43 _ _ _ _ (rd_L4 x17_3 ji44) from ge409_0)
                       clear hv409_0 ge409_0; have HX409_0 := Aside0.mk hx409_0; clear hcc409 hce409; have HR409_0 := Aside0.mk hi409_0; have HC409_0 := Aside0.mk hl409_0; clear hi409_0 hl409_0; replace p409 := eq_true p409; replace q409 := eq_true q409
                       have p410 : 0 ≤ (ji44 : Int) := of_decide_eq_true (by first | (with_reducible assumption) | assumption)
                       have q410 : ji44 < (x17_3.length : Int) := of_decide_eq_true (by first | (with_reducible assumption) | assumption)
                       obtain ⟨ad410, A410_0, c410_0, e410, hx410_0, hl410_0, hi410_0⟩ := at_L4 (Kd.S_reads' HO_17.out).2.2 ji44 p410 q410
                       obtain rfl : ad409 = ad410 := (by injection e410)
                       obtain ⟨ce410, hce410, hMe410, hcc410⟩ := Kd.S_get HO_17.out [] ji44 p410 (by first | exact q410 | exact of_decide_eq_true (by first | (with_reducible assumption) | assumption) | (have e_ := (Kd.S_reads' HO_17.out).1; omega))
                       obtain ⟨ve410_0, rfl, ge410_0⟩ := hMe410; have hv410_0 := hcc410 0 _ rfl
                       rw [Nat.add_zero, show ((Kd.slice 43 (Kd.int .u64))).sz = 1 from rfl, Nat.mul_one] at hv410_0
                       replace hv410_0 := Option.some.inj (hv410_0.symm.trans hx410_0)
                       rw [hv410_0] at ge410_0
                       have HL410_0 := Aside0.mk (show Kd.R (Kd.int .u64) 43 _ _ _ _ (rd_L4 x17_3 ji44) from ge410_0)
                       clear hv410_0 ge410_0; have HX410_0 := Aside0.mk hx410_0; clear hcc410 hce410; have HR410_0 := Aside0.mk hi410_0; have HC410_0 := Aside0.mk hl410_0; clear hi410_0 hl410_0; replace p410 := eq_true p410; replace q410 := eq_true q410; have ea_ := Option.some.inj (hx409_0.symm.trans hx410_0)
                       injection ea_ with ea_ en_ ec_
                       subst ea_; subst ec_; clear en_
                       have p411 : 0 ≤ ((ji68) : Int) := of_decide_eq_true (by first | (with_reducible assumption) | assumption)
                       have q411 : (ji68) < ((rd_L4 x17_3 ji44).length : Int) := of_decide_eq_true (by first | (with_reducible assumption) | assumption)
                       obtain ⟨ad411, e411, hx411_0⟩ := Kd.at_int (by repeat (first | (with_reducible exact HR410_0.out) | (with_reducible refine Kd.C_alloc ?_ _) | (with_reducible refine Kd.C_drewN ?_ _) | (with_reducible refine Kd.C_drew ?_) | exact HR410_0.out)) (ji68) p411 q411
                       cases e411
                       replace p411 := eq_true p411; replace q411 := eq_true q411
                       have p74 : 0 ≤ ((ji68) : Int) := of_decide_eq_true (by first | (with_reducible assumption) | assumption)
                       have q74 : ((ji68) : Int) < (((rd_L4 x17_3 ji44).length : Int) : Int) := of_decide_eq_true (by first | (with_reducible assumption) | assumption)
                       obtain ⟨go74, co74, eo74, gb74, gl74, cl74, HG74⟩ := Kd.R_form HL409_0.out (by omega)
                       (first | cases eo74 | (injection eo74 with ea_ en_ ec_; (first | subst ea_ | (injection ea_ with ea_; subst ea_)); subst ec_; clear en_))
                       have GB74 := Aside0.mk gb74; have GG74 := Aside0.mk HG74; clear gb74 gl74 HG74
                       (first | simp only [add_plain] at hx411_0 | skip)
                       obtain ⟨hx74_0, hf74_0⟩ := Kd.R_celln 0 HL409_0.out ((ji68) : Int) p74 q74; replace p74 := eq_true p74; replace q74 := eq_true q74
                       have n_ := Aside0.mk (Kd.S_mono (ok' := (fun _ => True)) HO_17.out (fun k_ hk => trivial))
                       clear HO_17; have HO_17 := n_; clear n_
                       have hq97 : (ji44 : Int) < (x17_3.length : Int) := (by have h_ : (ji44 : Int) < ((x17_3.length : Int) : Int) := of_decide_eq_true (by first | (with_reducible assumption) | assumption); first | exact h_ | (have e_ := (Kd.S_reads' HO_17.out).1; omega) | simpa only [List.length_set, List.length_set] using h_)
                       obtain ⟨oki97, ce97, hcl97, hM97, hcc97, hok97, hbk97⟩ := Kd.S_borrow HO_17.out [] (ji44 : Int) (of_decide_eq_true (by first | (with_reducible assumption) | assumption)) (by first | exact hq97 | exact of_decide_eq_true (by first | (with_reducible assumption) | assumption) | (have e_ := (Kd.S_reads' HO_17.out).1; omega))
                       obtain ⟨ve97_0, rfl, ge97_0⟩ := hM97; have hv97 := hcc97 0 _ rfl
                       rw [Nat.add_zero, show ((Kd.slice 43 (Kd.int .u64))).sz = 1 from rfl, Nat.mul_one] at hv97
                       replace hv97 := Option.some.inj (hv97.symm.trans HX409_0.out); subst hv97; clear hcc97 hcl97
                       replace ge97_0 := (show Kd.R (Kd.int .u64) 43 _ _ _ _ (rd_L4 x17_3 ji44) from ge97_0)
                       have HP97 := Kd.R_putg ge97_0 ((ji68) : Int) (Go.bits .xor .u64 (rd (rd_L4 x17_3 ji44) (ji68)) (ji73))
                       rw [← Ny412.out] at HP97
                       have HS97 := hbk97 HP97.2 (fun k_ e_ => by injection e_ with e_; subst e_; exact ge97_0.1 _ rfl) (x' := y412) (Kd.M_row HP97.1)
                       rw [← Ny414.out] at HS97
                       have HQ97 := Aside0.mk HS97; clear HP97 HS97 hbk97 hok97
                       refine start_ (n := 18) (S := fun w' => w'.cell? (ad409.add (ji44).toNat) = some (.slice (some ⟨go74, 0, none⟩) (rd_L4 x17_3 ji44).length c409_0) ∧ w'.cell? (ad409.add (ji44).toNat) = some (.slice (some ⟨go74, 0, none⟩) (rd_L4 x17_3 ji44).length c409_0) ∧ w'.cell? ⟨go74, ((ji68)).toNat, none⟩ = some (.int .u64 (rd (rd_L4 x17_3 ji44) (ji68)))) (ds := [17]) #[false, false, false, false, false, false, false, false, false, false, false, false, false, false, false, false, false, false] (by kernel_rfl) rfl rfl ⟨hx409_0, hx410_0, hx411_0⟩ (fun hHeld => ?_); refine with_tabW steeplelaw27_WitnessOne.tab21 steeplelaw27_WitnessOne.bits21 (fun HT_ HW_ => ?_)
                       generalize wr.drew = w95 at HO_7 HO_17 BK376 BK377 HB GG74 HL409_0 HL410_0 HQ97 HR409_0 HR410_0 HX409_0 HX410_0 hf74_0 hx409_0 hx410_0 hx411_0 hx74_0 hHeld ⊢
                       refine pureA 0 (some 128) HT_.out ?_
                       refine pureA 1 (some 129) HT_.out ?_
                       refine pureA 2 (some 130) HT_.out ?_
                       refine pureA 4 (some 132) HT_.out ?_
                       refine pureA 5 (some 133) HT_.out ?_
                       refine pureA 6 (some 134) HT_.out ?_
                       refine pureA 7 (some 135) HT_.out ?_
                       refine pureA 9 (some 137) HT_.out ?_
                       refine pureA 12 (some 140) HT_.out ?_
                       refine pureA 13 (some 141) HT_.out ?_
                       refine pureA 14 (some 142) HT_.out ?_
                       refine takeA 3 (some 131) rfl HT_.out HW_.out hHeld (Or.inl ⟨by rfl, by rintro w' ⟨s0, s1, s2⟩; go_simp; with_reducible rfl⟩) ?_
                       refine takeA 8 (some 136) rfl HT_.out HW_.out hHeld (Or.inl ⟨by rfl, by rintro w' ⟨s0, s1, s2⟩; go_simp; with_reducible rfl⟩) ?_
                       refine pureA 10 (some 138) HT_.out ?_
                       refine takeA 11 (some 139) rfl HT_.out HW_.out hHeld (Or.inl ⟨by rfl, by rintro w' ⟨s0, s1, s2⟩; go_simp; with_reducible rfl⟩) ?_
                       refine pureA 15 (some 143) HT_.out ?_
                       refine pureA 16 (some 144) HT_.out ?_
                       refine last_ (i := 17) (N := none) #[true, true, true, true, true, true, true, true, true, true, true, true, true, true, true, true, true, true] rfl rfl (one_of HT_.out (by kernel_rfl)) (by decide) (fun K hK => ?_)
                       refine skip_ (w1 := ?_) (by rfl) rfl ?_ ?_
                       rotate_left
                       ·go_simp
                        rfl
                       refine hK.out _ _ ?_
                       clear hK K
                       refine done_ (done_of HT_.out (by kernel_rfl)) ?_
                       have hnb99 := NB376_377.out; have hnc99 := NB377_376.out
                       have hcz100 := fun i => blk_cell BK376.out i
                       have hfz100 := fun i => blk_frozen BK376.out i
                       have hnb_3760 : go74 ≠ gb376 := (by have h_ := Kd.R_ne HL409_0.out BK376.out (by decide); intro e_; exact h_ (by rw [e_]; rfl)); have hnc_3760 := Ne.symm hnb_3760
                       try go_wp2_with (first | ((with_reducible refine gate_callee (f := 31) rfl ?_); refine goesL_ (some 148) rfl rfl Try.func31 (by kernel_rfl) rfl #[.agg #[.int .i64 a0_0, .int .i64 a0_1, .int .i64 a0_2, .int .i64 a0_3, .int .i64 a0_4, .slice A0_5 l0_5.length c0_5], .slice (some ad409) y414.length co96] rfl (by (try simp only [List.map_toArray, List.map_cons, List.map_nil]); first | done | (rw [show y414.length = x17_3.length from (Kd.S_reads' HQ97.out).1.symm] <;> rfl) | rfl | (simp only [List.length_drop, List.length_take]; rfl)) ?_; (with_reducible refine (witness_Holds.calls k3 a0_0 a0_1 a0_2 a0_3 a0_4 _ _ l0_5 _ _ y414 t415 t416 _ ?side1 ?side2 ?side3 ?side4 A75.out).mono ?_); (case side1 => exact Kd.C_below HR0_5.out (blA HB.out)); (case side2 => exact HC0_5.out); (case side3 => refine (Kd.S_reads' (e := 68) (base := w.heap.size) (ok := fun k_ => True) (n := x17_3.length) (c := co96) ?_).2.2; exact (by (with_reducible repeat (first | apply Kd.S_alloc | apply Kd.S_drewN | apply Kd.S_drew)); exact HQ97.out)); (case side4 => rw [show y414.length = x17_3.length from (Kd.S_reads' HQ97.out).1.symm]; exact (Kd.S_reads' HO_17.out).2.1); rintro e w101 ⟨rfl, hb⟩; refine ⟨_, rfl, ?_⟩; have n0_ := Aside0.mk (Kd.S_below (by (with_reducible repeat (first | apply Kd.S_alloc | apply Kd.S_drewN | apply Kd.S_drew)); exact HQ97.out) hb); have n1_ := Aside0.mk (blk_below (g := gb376) (o := .cells #[.int .i64 a0_0, .int .i64 a0_1, .int .i64 a0_2, .int .i64 a0_3, .int .i64 a0_4, .slice A0_5 l0_5.length c0_5] 24 (0, 0)) (by refine bkA ?_; refine blk_far ?_ (by have h_ := Kd.R_ne HL409_0.out BK376.out (by decide); intro e_; exact h_ (by rw [e_]; rfl)) _; refine bkA ?_; exact BK376.out) hb); have n2_ := Aside0.mk (blk_below (g := gb377) (o := .cells #[.int .i64 a2_0, .int .i64 a2_1, .int .i64 a2_2] 65 (0, 0)) (by refine bkA ?_; refine blk_far ?_ (by have h_ := Kd.R_ne HL409_0.out BK377.out (by decide); intro e_; exact h_ (by rw [e_]; rfl)) _; refine bkA ?_; exact BK377.out) hb); have n3_ := Aside0.mk (below_step (blA HB.out) hb); clear HO_17; clear BK376; clear BK377; clear HB; have HO_17 := n0_; have BK376 := n1_; have BK377 := n2_; have HB := n3_; clear n0_ n1_ n2_ n3_; (try clear hb)) | ((with_reducible refine gate_callee (f := 27) rfl ?_); refine goesL_ (some 151) rfl rfl Try.func27 (by kernel_rfl) rfl #[] rfl gsA ?_; (with_reducible refine (steeplelaw27_awake.calls k3  false _ A76.out).mono ?_); rintro e w102 ⟨rfl, hb⟩; refine ⟨_, rfl, ?_⟩; have n0_ := Aside0.mk (Kd.S_below (by (with_reducible repeat (first | apply Kd.S_alloc | apply Kd.S_drewN | apply Kd.S_drew)); exact HO_17.out) hb); have n1_ := Aside0.mk (blk_below (bkA BK376.out) hb); have n2_ := Aside0.mk (blk_below (bkA BK377.out) hb); have n3_ := Aside0.mk (below_step (blA HB.out) hb); clear HO_17; clear BK376; clear BK377; clear HB; have HO_17 := n0_; have BK376 := n1_; have BK377 := n2_; have HB := n3_; clear n0_ n1_ n2_ n3_; (try clear hb)))
                       go_ret
                       exact ⟨by first | rfl | (simp [errW_none, errW_some] <;> rfl) | (simp only [← hji44, ← hji68, ← hji71, ← hji73]; first | rfl | (simp [errW_none, errW_some] <;> rfl)) | (simp [*, errW_none, errW_some] <;> rfl), blA HB.out⟩
                     ·rw [if_neg c72] at H
                      exact absurd H (by simp)
                    ·rw [if_neg c70] at H
                     exact absurd H (by simp)
                   ·rw [if_neg c69] at H
                    exact absurd H (by simp)
                  ·rw [if_neg c67] at H
                   exact absurd H (by simp)
                 ·rw [if_neg c66] at H
                  exact absurd H (by simp)
           ·rw [if_neg c46] at H
            exact absurd H (by simp)
          ·rw [if_neg c45] at H
           exact absurd H (by simp)
    ·rw [if_neg c20] at H
     have c20b0 : (t384 == 0) = false := beq_eq_false_iff_ne.mpr c20; have c20b1 : (t384 != 0) = true := bne_iff_ne.mpr c20; replace H := Option.bind_eq_some_iff.mp H; obtain ⟨t385, A1030, H⟩ := H; replace H : (some t385) = some r := H; have A103 := Aside0.mk A1030; clear A1030; obtain rfl := Option.some.inj H; have hnb104 := NB376_377.out; have hnc104 := NB377_376.out
     have hcz105 := fun i => blk_cell BK376.out i
     have hfz105 := fun i => blk_frozen BK376.out i
     go_wp2_with (first | ((with_reducible refine gate_callee (f := 28) rfl ?_); refine goesL_ (some 31) rfl rfl Try.func28 (by kernel_rfl) rfl #[.agg #[.int .i64 a0_0, .int .i64 a0_1, .int .i64 a0_2, .int .i64 a0_3, .int .i64 a0_4, .slice A0_5 l0_5.length c0_5], .slice A1 l1.length c1] rfl gsA ?_; (with_reducible refine (witness_Run.calls kj3 a0_0 a0_1 a0_2 a0_3 a0_4 _ _ l0_5 _ _ l1 t381 t384 _ ?side1 ?side2 ?side3 ?side4 A19.out).mono ?_); (case side1 => repeat (first | exact (Kd.C_below HR0_5.out HB.out) | (with_reducible refine Kd.C_alloc ?_ _) | (with_reducible refine Kd.C_drewN ?_ _) | (with_reducible refine Kd.C_drew ?_))); (case side2 => exact HC0_5.out); (case side3 => repeat (first | exact (Kd.C_below HR1.out HB.out) | (with_reducible refine Kd.C_alloc ?_ _) | (with_reducible refine Kd.C_drewN ?_ _) | (with_reducible refine Kd.C_drew ?_))); (case side4 => exact HC1.out); rintro e w106 ⟨v382, rfl, ho0, hb⟩; refine ⟨_, rfl, ?_⟩; have n0_ := Aside0.mk (Kd.S_lower ho0 (below_size (blA HB.out))); have n1_ := Aside0.mk (blk_below (bkA BK376.out) hb); have n2_ := Aside0.mk (blk_below (bkA BK377.out) hb); have n3_ := Aside0.mk (below_step (blA HB.out) hb); clear BK376; clear BK377; clear HB; have HO383 := n0_; have BK376 := n1_; have BK377 := n2_; have HB := n3_; clear n0_ n1_ n2_ n3_; (try clear hb); (try clear ho0)) | ((with_reducible refine gate_callee (f := 27) rfl ?_); refine goesL_ (some 36) rfl rfl Try.func27 (by kernel_rfl) rfl #[] rfl gsA ?_; (with_reducible refine (steeplelaw27_awake.calls kj3  t385 _ A103.out).mono ?_); rintro e w107 ⟨rfl, hb⟩; refine ⟨_, rfl, ?_⟩; have n0_ := Aside0.mk (Kd.S_below (by (with_reducible repeat (first | apply Kd.S_alloc | apply Kd.S_drewN | apply Kd.S_drew)); exact HO383.out) hb); have n1_ := Aside0.mk (blk_below (bkA BK376.out) hb); have n2_ := Aside0.mk (blk_below (bkA BK377.out) hb); have n3_ := Aside0.mk (below_step (blA HB.out) hb); clear HO383; clear BK376; clear BK377; clear HB; have HO383 := n0_; have BK376 := n1_; have BK377 := n2_; have HB := n3_; clear n0_ n1_ n2_ n3_; (try clear hb)))
     go_ret
     exact ⟨by first | rfl | (simp [errW_none, errW_some] <;> rfl) | (simp [*, errW_none, errW_some] <;> rfl), blA HB.out⟩
end Go.Proofs.Ythiiodgpdoljoaa.PLw
